/- Texts under the proof, joined by a program (prune.py): SLimb, P6, P33, P34, SRight, HRatRead, HRatRead2, HRatTold, HRatTen. -/
import Derived.Test.YtocfocjfdpegmaaGreatDoorCRatParses06
import Derived.Test.YtocfocjfdpegmaaGreatDoorCRatParses07
import Derived.Test.YtocfocjfdpegmaaGreatDoorCRatParses02
import Derived.Test.YtocfocjfdpegmaaGreatDoorCRatParses05
set_option linter.unusedVariables false
set_option linter.unusedSimpArgs false
set_option exponentiation.threshold 20001
set_option maxHeartbeats 8000000
set_option maxRecDepth 100000
section
namespace Go.Proofs.ZP
open Go.RowKit Go.Proofs.ZW.Wa
def lv:List Int→Int
 | []=>0
 | x :: xs=>x+10000*lv xs
def Ld (ws:List Int):Prop:=∀ u∈ws,0≤u∧u<10000
theorem Ld.nil:Ld []:=fun u h=>by cases h
theorem Ld.cons {x:Int} {xs:List Int} (h0:0≤x) (h1:x<10000) (h:Ld xs):Ld (x :: xs):=fun u hu=>by
 rcases List.mem_cons.1 hu with rfl|hu
 ·exact ⟨h0,h1⟩
 ·exact h u hu
theorem Ld.tail {x:Int} {xs:List Int} (h:Ld (x :: xs)):Ld xs:=fun u hu=>h u (List.mem_cons_of_mem _ hu)
theorem Ld.head {x:Int} {xs:List Int} (h:Ld (x :: xs)):0≤x∧x<10000:=h x List.mem_cons_self
theorem Ld.append {xs ys:List Int} (h:Ld xs) (k:Ld ys):Ld (xs++ys):=fun u hu=>(List.mem_append.1 hu).elim (h u) (k u)
theorem Ld.take {xs:List Int} (h:Ld xs) (n:Nat):Ld (xs.take n):=fun u hu=>h u (List.mem_of_mem_take hu)
theorem Ld.drop {xs:List Int} (h:Ld xs) (n:Nat):Ld (xs.drop n):=fun u hu=>h u (List.mem_of_mem_drop hu)
theorem Ld.set {xs:List Int} (h:Ld xs) (n:Nat) {v:Int} (h0:0≤v) (h1:v<10000):Ld (xs.set n v):=fun u hu=>by
 rcases List.mem_or_eq_of_mem_set hu with hu|rfl
 ·exact h u hu
 ·exact ⟨h0,h1⟩
theorem Ld.zeros (n:Nat):Ld (List.replicate n 0):=fun u hu=>by
 rw [List.eq_of_mem_replicate hu]; exact ⟨by decide,by decide⟩
theorem Ld.rd {xs:List Int} (h:Ld xs) (i:Int):0≤rd xs i∧rd xs i<10000:=by
 unfold Go.Proofs.ZW.Wa.rd
 rw [List.getD_eq_getElem?_getD]
 rcases Nat.lt_or_ge i.toNat xs.length with hi|hi
 ·rw [List.getElem?_eq_getElem hi]; exact h _ (List.getElem_mem hi)
 ·rw [List.getElem?_eq_none hi]; exact ⟨by decide,by decide⟩
theorem zaY {xs:List Int} (h:Ld xs):0≤lv xs:=by
 induction xs with
 | nil=>exact Int.le_refl _
 | cons x xs ih=>have:=ih h.tail; have:=h.head; simp only [lv]; omega
theorem zcp (xs ys:List Int):lv (xs++ys)=lv xs+10000^xs.length*lv ys:=by
 induction xs with
 | nil=>simp [lv]
 | cons x xs ih=>simp only [List.cons_append,lv,ih,List.length_cons,Int.pow_succ]; rw [Int.mul_add,Int.mul_comm (10000^xs.length) 10000,Int.mul_assoc]; omega
theorem lv_lt {xs:List Int} (h:Ld xs):lv xs<10000^xs.length:=by
 induction xs with
 | nil=>simp [lv]
 | cons x xs ih=>have:=ih h.tail; have:=h.head; simp only [lv,List.length_cons,Int.pow_succ]; omega
theorem lv_zeros (n:Nat):lv (List.replicate n 0)=0:=by
 induction n with
 | zero=>rfl
 | succ n ih=>simp [List.replicate_succ,lv,ih]
theorem lv_take_drop (xs:List Int) (n:Nat) (h:n≤xs.length):lv xs=lv (xs.take n)+10000^n*lv (xs.drop n):=by
 have:=zcp (xs.take n) (xs.drop n)
 rwa [List.take_append_drop,List.length_take,Nat.min_eq_left h] at this
theorem lv_set {xs:List Int} {n:Nat} (v:Int) (h:n<xs.length):lv (xs.set n v)=lv xs+10000^n*(v-rd xs (n:Int)):=by
 induction xs generalizing n with
 | nil=>simp at h
 | cons x xs ih =>
  cases n with
  | zero=>simp [lv,Go.Proofs.ZW.Wa.rd]; omega
  | succ n =>
   have e:=ih (n:=n) (by simpa using h)
   have er:rd (x :: xs) ((n+1:Nat):Int)=rd xs (n:Int):=by simp [Go.Proofs.ZW.Wa.rd]
   rw [List.set_cons_succ,er]
   simp only [lv,e,Int.pow_succ]
   grind
def lim (n:Nat):List Int:=if h:n=0 then [] else ((n%10000:Nat):Int) :: lim (n/10000)
termination_by n
decreasing_by omega
theorem zbt:lim 0 = []:=by rw [lim]; rfl
theorem zcc {n:Nat} (h:0<n):lim n=((n%10000:Nat):Int) :: lim (n/10000):=by rw [lim,dif_neg (by omega)]
theorem lim_ld (n:Nat):Ld (lim n):=by
 induction n using Nat.strongRecOn with
 | ind n ih =>
  rcases Nat.eq_zero_or_pos n with h|h
  ·subst h; rw [zbt]; exact Ld.nil
  ·rw [zcc h]; exact Ld.cons (by omega) (by omega) (ih _ (by omega))
theorem zcg (n:Nat):lv (lim n)=n:=by
 induction n using Nat.strongRecOn with
 | ind n ih =>
  rcases Nat.eq_zero_or_pos n with h|h
  ·subst h; rw [zbt]; rfl
  ·rw [zcc h,lv,ih _ (by omega)]; omega
theorem lim_top (n:Nat):(lim n).getLast? ≠ some 0:=by
 induction n using Nat.strongRecOn with
 | ind n ih =>
  rcases Nat.eq_zero_or_pos n with h|h
  ·subst h; rw [zbt]; simp
  ·rw [zcc h]
   by_cases h2:n/10000=0
   ·rw [h2,zbt]; simp; omega
   ·rw [zcc (by omega)]
    have:=ih (n/10000) (by omega)
    rw [zcc (by omega)] at this
    rwa [List.getLast?_cons_cons]
theorem lim_uniq:∀ {xs:List Int},Ld xs→xs.getLast? ≠ some 0→∀ {n:Nat},lv xs=n→xs=lim n:=by
 intro xs
 induction xs with
 | nil=>intro _ _ n h; simp [lv] at h; rw [show n=0 by omega,zbt]
 | cons x xs ih =>
  intro hd ht n h
  have h1:=hd.head
  have h2:=zaY hd.tail
  simp only [lv] at h
  have ht2:xs.getLast? ≠ some 0:=by
   cases xs with
   | nil=>simp
   | cons y ys=>rwa [List.getLast?_cons_cons] at ht
  have hn:0<n:=by
   apply Classical.byContradiction
   intro hn
   have hx0:x=0:=by omega
   have:=ih hd.tail ht2 (n:=0) (by omega)
   rw [zbt] at this
   rw [this,hx0] at ht
   simp at ht
  have e:=ih hd.tail ht2 (n:=n/10000) (by omega)
  rw [zcc hn,←e]
  have:((n%10000:Nat):Int)=x:=by omega
  rw [this]
theorem lim_len {n k:Nat} (h:n<10000^k):(lim n).length≤k:=by
 induction k generalizing n with
 | zero=>rw [show n=0 by simpa using h,zbt]; simp
 | succ k ih =>
  rcases Nat.eq_zero_or_pos n with h0|h0
  ·subst h0; rw [zbt]; simp
  ·rw [zcc h0,List.length_cons]
   have:=ih (n:=n/10000) (by rw [Nat.div_lt_iff_lt_mul (by decide)]; rwa [Nat.pow_succ] at h)
   omega
theorem za8 (n:Nat):(lim n).length≤(T n).size:=by
 refine lim_len ?_
 have h1:=(zaB (n:=n) (k:=(T n).size) (by rw [zc2]; exact zaK n)).1 (Nat.le_refl _)
 have h2:10^(T n).size≤10000^(T n).size:=Nat.pow_le_pow_left (by decide) _
 omega
theorem w64' {x:Int} (h0 : -4611686018427387904≤x) (h1:x≤4611686018427387904):wrap64 x=x:=by unfold wrap64; omega
theorem trim_ev:∀ (m:Nat) (xs:List Int),xs.length=m→m≤1099511627776→Ld xs→Ev (fun k=>c1_trim.f k xs) (lim (lv xs).toNat):=by
 intro m
 induction m with
 | zero =>
  intro xs hl hm hd
  have:xs = []:=List.length_eq_zero_iff.1 hl
  subst this
  rw [show (lv []).toNat=0 from rfl,zbt]
  refine Ev.step (f:=fun _=>some []) (fun k => ?_) (Ev.now _)
  simp [c1_trim.f,c1_trim.l0]
 | succ m ih =>
  intro xs hl hm hd
  obtain ⟨ys,y,rfl⟩:∃ ys y,xs=ys ++ [y]:=by
   have hne:xs ≠ []:=by intro e; subst e; simp at hl
   exact ⟨xs.dropLast,xs.getLast hne,(List.dropLast_concat_getLast hne).symm⟩
  have hyl:ys.length=m:=by simpa using hl
  have e1:wrap64 (((ys ++ [y]).length:Int)-1)=(m:Int):=by rw [w64' (by omega) (by omega)]; omega
  have e2:rd (ys ++ [y]) (m:Int)=y:=by
   unfold Go.Proofs.ZW.Wa.rd
   rw [List.getD_eq_getElem?_getD,Int.toNat_natCast,←hyl,List.getElem?_concat_length]; rfl
  have hdy:Ld ys:=fun u hu=>hd u (List.mem_append_left _ hu)
  have hy:=hd y (by simp)
  by_cases h0:y=0
  ·subst h0
   have hv:lv (ys ++ [0])=lv ys:=by rw [zcp]; simp [lv]
   rw [hv]
   refine Ev.step (f:=fun k=>c1_trim.f k ys) (fun k => ?_) (ih ys hyl (by omega) hdy)
   simp only [c1_trim.f,c1_trim.l0]
   rw [if_pos (by omega),e1,if_pos (by omega),if_pos (by omega),e2,if_pos rfl,if_pos (by omega),Int.toNat_natCast,←hyl,List.take_left]
  ·have hu:ys ++ [y]=lim (lv (ys ++ [y])).toNat:=lim_uniq hd (by simpa using h0) (by have:=zaY hd; omega)
   rw [←hu]
   refine Ev.step (f:=fun _=>some (ys ++ [y])) (fun k => ?_) (Ev.now _)
   simp only [c1_trim.f,c1_trim.l0]
   rw [if_pos (by omega),e1,if_pos (by omega),if_pos (by omega),e2,if_neg h0]
theorem bt_dig {s:ByteArray} (hd:Dig s.data.toList) {j:Nat} (h:j<s.size):∃ d:Nat,d≤9∧bt s (j:Int)=(d:Int)+48∧∀ l,s.data.toList=l→∃ hl:j<l.length,(l[j].toNat-48)=d:=by
 have hl:j<s.data.toList.length:=by rw [zah]; exact h
 have h1:=hd _ (List.getElem_mem hl)
 refine ⟨s.data.toList[j].toNat-48,by omega,?_,fun l e=>by subst e; exact ⟨hl,rfl⟩⟩
 have:=bt_at s (j:Int) (by rw [Int.toNat_natCast]; exact h)
 rw [←this]
 have e2:s[(j:Int).toNat]'(by rw [Int.toNat_natCast]; exact h)=s.data.toList[j]:=by
  simp [ByteArray.getElem_eq_getElem_data]
 rw [e2]; omega
def seg (l:List UInt8) (i j:Nat):Nat:=dval ((l.drop i).take (j-i))
theorem seg_self (l:List UInt8) (i:Nat):seg l i i=0:=by unfold seg; rw [Nat.sub_self,List.take_zero]; rfl
theorem seg_succ (l:List UInt8) {i j:Nat} (h:i≤j) (hj:j<l.length):seg l i (j+1)=10*seg l i j+(l[j].toNat-48):=by
 unfold seg
 rw [show j+1-i=(j-i)+1 by omega,zbX _ _ (by rw [List.length_drop]; omega)]
 rw [List.getElem_drop]
 have:i+(j-i)=j:=by omega
 simp only [this]
 omega
theorem seg_lt {l:List UInt8} (hd:Dig l) (i j:Nat) (h:i≤j) (hj:j≤l.length):seg l i j<10^(j-i):=by
 unfold seg
 have:=dval_lt _ ((hd.drop i).take (j-i))
 rwa [List.length_take,List.length_drop,Nat.min_eq_left (by omega)] at this
theorem seg_join {l:List UInt8} {i j k:Nat} (h:i≤j) (hj:j≤k) (hk:k≤l.length):seg l i k=seg l i j*10^(k-j)+seg l j k:=by
 have e:(l.drop i).take (k-i)=(l.drop i).take (j-i)++(l.drop j).take (k-j):=by
  rw [show k-i=(j-i)+(k-j) by omega,List.take_add,List.drop_drop,show i+(j-i)=j by omega]
 unfold seg
 rw [e,za9,List.length_take,List.length_drop,Nat.min_eq_left (by omega)]
theorem seg_all (l:List UInt8):seg l 0 l.length=dval l:=by
 unfold seg
 rw [Nat.sub_zero,List.drop_zero,List.take_length]
end Go.Proofs.ZP
end
section
namespace Go.Proofs.ZP
open Go.RowKit Go.Proofs.ZW.Wa Go.Proofs.ZW.Wb Go.Proofs.ZW.Wc
attribute [local go_sem] zaH zaF zaW zaV zaA zaz zaG zaE
mutual
def nat_Right.j0:Nat→ByteArray→Bool→Option (Bool)
 | 0,_,_=>none
 | k+1,x0,x21=>if x21=true then (some false) else (nat_Right.l0 k x0 (x0.size:Int) 0)
def nat_Right.l0:Nat→ByteArray→Int→Int→Option (Bool)
 | 0,_,_,_=>none
 | k+1,x0,x23,x24=>if x24<x23 then (if 0≤x24 then (if x24<(x0.size:Int) then (if (bt x0 x24)<48 then (some false) else (if (bt x0 x24)>57 then (some false) else (nat_Right.l0 k x0 x23 (wrap64 (x24+1))))) else (none)) else (none)) else (some true)
end
def nat_Right.f (k:Nat) (a0:ByteArray):Option (Bool):=if (a0.size:Int)=0 then (nat_Right.j0 k a0 true) else (if (a0.size:Int)>600 then (nat_Right.j0 k a0 true) else (if 0<(a0.size:Int) then (if (bt a0 0)=48 then (nat_Right.j0 k a0 (decide ((a0.size:Int)>1))) else (nat_Right.j0 k a0 false)) else (none)))
theorem nat_Right.calls (k:Nat) (a0:ByteArray) (r:Bool) (w:World) (h:nat_Right.f k a0=some r) :
  Calls Tryz.prog 151 #[.string a0] w fun e w'=>e = .returned (.bool r)∧Drawn0 w w':=by
 have H:(if (a0.size:Int)=0 then (nat_Right.j0 k a0 true) else (if (a0.size:Int)>600 then (nat_Right.j0 k a0 true) else (if 0<(a0.size:Int) then (if (bt a0 0)=48 then (nat_Right.j0 k a0 (decide ((a0.size:Int)>1))) else (nat_Right.j0 k a0 false)) else (none))))=some r:=h
 clear h
 have HC2:=Aside0.mk H
 clear H
 go_enter Tryz.func151,Tryz.ntmps151
 go_upto_region 1 with (fail)
 go_cut [21] (fun v21 wc=>∃ (kq:Nat) (x21_1:Bool),v21 = .bool x21_1∧Aside0 (nat_Right.j0 kq a0 x21_1=some r)∧Aside0 (kq≤k)∧Drawn0 w wc)
 case first =>
  have H:=HC2.out
  clear HC2
  by_cases c3:(a0.size:Int)=0
  ·rw [if_pos c3] at H
   have c3b0:((a0.size:Int) == 0)=true:=beq_iff_eq.mpr c3
   have c3b1:((a0.size:Int) != 0)=false:=bne_eq_false_iff_eq.mpr c3
   clear c3
   (first|rw [c3b0]|(simp only [i64_w,i32_w]; rw [c3b0])|skip)
   have H':=Aside0.mk H
   clear H
   go_wp2
   go_meet
   case rel=>exact ⟨_,(true),(by first|rfl|(simp; done)|(simp [*]; done)),H',⟨by first|omega|exact Nat.le_refl _⟩,by repeat (first|exact Drawn0.refl _|apply Drawn0.step)⟩
  ·rw [if_neg c3] at H
   have c3b0:((a0.size:Int) == 0)=false:=beq_eq_false_iff_ne.mpr c3
   have c3b1:((a0.size:Int) != 0)=true:=bne_iff_ne.mpr c3
   (first|rw [c3b0]|(simp only [i64_w,i32_w]; rw [c3b0])|skip)
   by_cases c4:(a0.size:Int)>600
   ·rw [if_pos c4] at H
    have c4b0:decide (600<(a0.size:Int))=true:=decide_eq_true c4
    have c4b1:decide (600<a0.size)=true:=decide_eq_true (by omega)
    clear c4
    have H':=Aside0.mk H
    clear H
    go_wp2
    go_meet
    case rel=>exact ⟨_,(true),(by first|rfl|(simp; done)|(simp [*]; done)),H',⟨by first|omega|exact Nat.le_refl _⟩,by repeat (first|exact Drawn0.refl _|apply Drawn0.step)⟩
   ·rw [if_neg c4] at H
    have c4b0:decide (600<(a0.size:Int))=false:=decide_eq_false c4
    have c4b1:decide (600<a0.size)=false:=decide_eq_false (by omega)
    clear c4
    by_cases c5:0<(a0.size:Int)
    ·rw [if_pos c5] at H
     have c5b0:decide (0<(a0.size:Int))=true:=decide_eq_true c5
     have c5b1:decide (0<a0.size)=true:=decide_eq_true (by omega)
     clear c5
     by_cases c7:(bt a0 0)=48
     ·rw [if_pos c7] at H
      have c7b0:((bt a0 0) == 48)=true:=beq_iff_eq.mpr c7
      have c7b1:((bt a0 0) != 48)=false:=bne_eq_false_iff_eq.mpr c7
      clear c7
      have H':=Aside0.mk H
      clear H
      have p6:0≤(0:Int):=(by omega)
      have q6:0<a0.size:=(by have:(0:Int)<(a0.size:Int):=of_decide_eq_true (by first|(with_reducible assumption)|assumption); omega)
      have hx6:∀ h:0<a0.size,((a0[0]'h).toNat:Int)=bt a0 0:=bt_at a0 0
      clear p6
      have qi6:(0<(a0.size:Int))=True:=eq_true (of_decide_eq_true (by first|(with_reducible assumption)|assumption))
      replace q6:=eq_true q6
      go_wp2
      go_meet
      case rel=>exact ⟨_,(decide ((a0.size:Int)>1)),(by first|rfl|(simp; done)|(simp [*]; done)),H',⟨by first|omega|exact Nat.le_refl _⟩,by repeat (first|exact Drawn0.refl _|apply Drawn0.step)⟩
     ·rw [if_neg c7] at H
      have c7b0:((bt a0 0) == 48)=false:=beq_eq_false_iff_ne.mpr c7
      have c7b1:((bt a0 0) != 48)=true:=bne_iff_ne.mpr c7
      have H':=Aside0.mk H
      clear H
      have p6:0≤(0:Int):=(by omega)
      have q6:0<a0.size:=(by have:(0:Int)<(a0.size:Int):=of_decide_eq_true (by first|(with_reducible assumption)|assumption); omega)
      have hx6:∀ h:0<a0.size,((a0[0]'h).toNat:Int)=bt a0 0:=bt_at a0 0
      clear p6
      have qi6:(0<(a0.size:Int))=True:=eq_true (of_decide_eq_true (by first|(with_reducible assumption)|assumption))
      replace q6:=eq_true q6
      go_wp2
      go_meet
      case rel=>exact ⟨_,(false),(by first|rfl|(simp; done)|(simp [*]; done)),H',⟨by first|omega|exact Nat.le_refl _⟩,by repeat (first|exact Drawn0.refl _|apply Drawn0.step)⟩
    ·rw [if_neg c5] at H
     exact absurd H (by simp)
 case rest =>
  clear HC2
  try clear c1
  try clear p2
  try clear c3
  try clear c3b0
  try clear c3b1
  try clear c4
  try clear c4b0
  try clear c4b1
  try clear c5
  try clear c5b0
  try clear c5b1
  try clear p6
  try clear q6
  try clear hx6
  try clear qi6
  try clear c7
  try clear c7b0
  try clear c7b1
  try clear p6
  try clear q6
  obtain ⟨kq,x21_1,rfl,HA,HJ1,⟨mc1,rfl⟩⟩:=hcut
  cases kq with
  | zero=>exact absurd HA.out (by simp [nat_Right.j0])
  | succ kj1 =>
   have H:=HA.out
   clear HA
   simp only [nat_Right.j0] at H
   by_cases c8:x21_1=true
   ·subst c8
    have H1:(some false)=some r:=by rw [if_pos rfl] at H; exact H
    clear H
    have H:=H1
    clear H1
    obtain rfl:=Option.some.inj H
    go_wp2
    go_ret
    exact ⟨by first|rfl|(simp; done)|(simp [*]; done),by repeat (first|exact Drawn0.refl _|apply Drawn0.step)⟩
   ·replace c8:=Bool.eq_false_iff.mpr c8
    subst c8
    have H1:(nat_Right.l0 kj1 a0 (a0.size:Int) 0)=some r:=by rw [if_neg (show ¬ (false=true) by decide)] at H; exact H
    clear H
    have H:=H1
    clear H1
    have H':=Aside0.mk H
    clear H
    go_wp2
    go_loopg [24] kj1 (fun kq v24 w'=>∃ (x24_2:Int),v24 = .int .i64 x24_2∧Aside0 (nat_Right.l0 kq a0 (a0.size:Int) x24_2=some r)∧Aside0 (kq≤kj1)∧Drawn0 w w')
    case atStart=>exact ⟨(0),(by first|rfl|(simp; done)|(simp [*]; done)),H',⟨Nat.le_refl _⟩,by repeat (first|exact Drawn0.refl _|apply Drawn0.step)⟩
    case round =>
     clear H'
     try clear c1
     try clear p2
     try clear c3
     try clear c3b0
     try clear c3b1
     try clear c4
     try clear c4b0
     try clear c4b1
     try clear c5
     try clear c5b0
     try clear c5b1
     try clear p6
     try clear q6
     try clear hx6
     try clear qi6
     try clear c7
     try clear c7b0
     try clear c7b1
     try clear c8
     try clear p2
     try clear p6
     try clear q6
     obtain ⟨x24_2,rfl,HA,HK2,⟨m2,rfl⟩⟩:=hrel
     cases gk with
     | zero=>exact absurd HA.out (by simp [nat_Right.l0])
     | succ k2 =>
      have H:=HA.out
      clear HA
      simp only [nat_Right.l0] at H
      by_cases c9:x24_2<(a0.size:Int)
      ·rw [if_pos c9] at H
       have c9b0:decide (x24_2<(a0.size:Int))=true:=decide_eq_true c9
       clear c9
       by_cases c10:0≤x24_2
       ·rw [if_pos c10] at H
        have c10b0:decide (0≤x24_2)=true:=decide_eq_true c10
        clear c10
        by_cases c11:x24_2<(a0.size:Int)
        ·rw [if_pos c11] at H
         have c11b0:decide (x24_2<(a0.size:Int))=true:=decide_eq_true c11
         clear c11
         by_cases c13:(bt a0 x24_2)<48
         ·rw [if_pos c13] at H
          have c13b0:decide ((bt a0 x24_2)<48)=true:=decide_eq_true c13
          clear c13
          obtain rfl:=Option.some.inj H
          have p12:0≤(x24_2:Int):=of_decide_eq_true (by first|(with_reducible assumption)|assumption)
          have q12:x24_2<(a0.size:Int):=of_decide_eq_true (by first|(with_reducible assumption)|assumption)
          have hx12:=bt_at a0 x24_2
          replace p12:=eq_true p12
          replace q12:=eq_true q12
          go_wp2
          go_ret
          exact ⟨by first|rfl|(simp; done)|(simp [*]; done),by repeat (first|exact Drawn0.refl _|apply Drawn0.step)⟩
         ·rw [if_neg c13] at H
          have c13b0:decide ((bt a0 x24_2)<48)=false:=decide_eq_false c13
          clear c13
          by_cases c15:(bt a0 x24_2)>57
          ·rw [if_pos c15] at H
           have c15b0:decide (57<(bt a0 x24_2))=true:=decide_eq_true c15
           clear c15
           obtain rfl:=Option.some.inj H
           have p12:0≤(x24_2:Int):=of_decide_eq_true (by first|(with_reducible assumption)|assumption)
           have q12:x24_2<(a0.size:Int):=of_decide_eq_true (by first|(with_reducible assumption)|assumption)
           have hx12:=bt_at a0 x24_2
           replace p12:=eq_true p12
           replace q12:=eq_true q12
           have p14:0≤(x24_2:Int):=of_decide_eq_true (by first|(with_reducible assumption)|assumption)
           have q14:x24_2<(a0.size:Int):=of_decide_eq_true (by first|(with_reducible assumption)|assumption)
           have hx14:=bt_at a0 x24_2
           replace p14:=eq_true p14
           replace q14:=eq_true q14
           go_wp2
           go_ret
           exact ⟨by first|rfl|(simp; done)|(simp [*]; done),by repeat (first|exact Drawn0.refl _|apply Drawn0.step)⟩
          ·rw [if_neg c15] at H
           have c15b0:decide (57<(bt a0 x24_2))=false:=decide_eq_false c15
           clear c15
           have H':=Aside0.mk H
           clear H
           have p12:0≤(x24_2:Int):=of_decide_eq_true (by first|(with_reducible assumption)|assumption)
           have q12:x24_2<(a0.size:Int):=of_decide_eq_true (by first|(with_reducible assumption)|assumption)
           have hx12:=bt_at a0 x24_2
           replace p12:=eq_true p12
           replace q12:=eq_true q12
           have p14:0≤(x24_2:Int):=of_decide_eq_true (by first|(with_reducible assumption)|assumption)
           have q14:x24_2<(a0.size:Int):=of_decide_eq_true (by first|(with_reducible assumption)|assumption)
           have hx14:=bt_at a0 x24_2
           replace p14:=eq_true p14
           replace q14:=eq_true q14
           go_wp2
           go_roundg k2
           case measure=>have:=HJ1.out; have:=HK2.out; omega
           case rel=>exact ⟨(wrap64 (x24_2+1)),(by first|rfl|(simp; done)|(simp [*]; done)),H',⟨by have:=HJ1.out; have:=HK2.out; omega⟩,by repeat (first|exact Drawn0.refl _|apply Drawn0.step)⟩
        ·rw [if_neg c11] at H
         exact absurd H (by simp)
       ·rw [if_neg c10] at H
        exact absurd H (by simp)
      ·rw [if_neg c9] at H
       have c9b0:decide (x24_2<(a0.size:Int))=false:=decide_eq_false c9
       clear c9
       obtain rfl:=Option.some.inj H
       go_wp2
       go_ret
       exact ⟨by first|rfl|(simp; done)|(simp [*]; done),by repeat (first|exact Drawn0.refl _|apply Drawn0.step)⟩
mutual
def c1_natural.j0:Nat→ByteArray→Bool→Option (Bool)
 | 0,_,_=>none
 | k+1,x0,x15=>if x15=true then (some false) else (c1_natural.l0 k x0 0)
def c1_natural.l0:Nat→ByteArray→Int→Option (Bool)
 | 0,_,_=>none
 | k+1,x0,x3=>if x3<(x0.size:Int) then (if 0≤x3 then (if (bt x0 x3)<48 then (some false) else (if (bt x0 x3)>57 then (some false) else (c1_natural.l0 k x0 (wrap64 (x3+1))))) else (none)) else (some true)
end
def c1_natural.f (k:Nat) (a0:ByteArray):Option (Bool):=if a0.toList=([]:List UInt8) then (c1_natural.j0 k a0 true) else (if 0<(a0.size:Int) then (if (bt a0 0)=48 then (c1_natural.j0 k a0 (decide ((a0.size:Int)>1))) else (c1_natural.j0 k a0 false)) else (none))
def c1_Right.f (k:Nat) (a0:ByteArray):Option (Bool):=if (a0.size:Int)≤600 then ((c1_natural.f k a0).bind fun t161=>(some t161)) else (some false)
end Go.Proofs.ZP
end
section
namespace Go.Proofs.ZP
open Go.RowKit Go.Proofs.ZW.Wa
instance (l:List UInt8):Decidable (Dig l):=by unfold Dig; infer_instance
instance (l:List UInt8):Decidable (Can l):=by unfold Can; infer_instance
theorem bt_nth (s:ByteArray) {i:Nat} (h:i<s.data.toList.length):bt s (i:Int)=(s.data.toList[i].toNat:Int):=by
 have hi:i<s.size:=by rw [zah] at h; exact h
 have:=bt_at s (i:Int) (by rw [Int.toNat_natCast]; exact hi)
 rw [←this]
 simp [ByteArray.getElem_eq_getElem_data]
theorem dig_drop {l:List UInt8} {i:Nat} (h:i<l.length):Dig (l.drop i)↔(48≤l[i].toNat∧l[i].toNat≤57)∧Dig (l.drop (i+1)):=by
 rw [List.drop_eq_getElem_cons h]
 constructor
 ·intro hd
  exact ⟨hd _ List.mem_cons_self,fun c hc=>hd c (List.mem_cons_of_mem _ hc)⟩
 ·rintro ⟨h1,h2⟩ c hc
  rcases List.mem_cons.1 hc with rfl|hc
  ·exact h1
  ·exact h2 c hc
theorem nat_loop (s:ByteArray) (hs:s.size≤1099511627776):∀ (d i:Nat),d=s.size-i→i≤s.size→Ev (fun k=>nat_Right.l0 k s (s.size:Int) (i:Int)) (decide (Dig (s.data.toList.drop i))):=by
 have hl:s.data.toList.length=s.size:=zah s
 intro d
 induction d with
 | zero =>
  intro i hd hi
  have:Dig (s.data.toList.drop i):=by rw [List.drop_eq_nil_of_le (by omega)]; intro c hc; cases hc
  rw [decide_eq_true this]
  refine Ev.step (f:=fun _=>some true) (fun k => ?_) (Ev.now _)
  simp only [nat_Right.l0]
  rw [if_neg (by omega)]
 | succ d ih =>
  intro i hd hi
  have hil:i<s.data.toList.length:=by omega
  have hb:=bt_nth s hil
  have hdd:=dig_drop hil
  by_cases h1:s.data.toList[i].toNat<48
  ·rw [decide_eq_false (fun h=>by have:=(hdd.1 h).1; omega)]
   refine Ev.step (f:=fun _=>some false) (fun k => ?_) (Ev.now _)
   simp only [nat_Right.l0]
   rw [if_pos (by omega),if_pos (by omega),if_pos (by omega),hb,if_pos (by omega)]
  ·by_cases h2:s.data.toList[i].toNat>57
   ·rw [decide_eq_false (fun h=>by have:=(hdd.1 h).1; omega)]
    refine Ev.step (f:=fun _=>some false) (fun k => ?_) (Ev.now _)
    simp only [nat_Right.l0]
    rw [if_pos (by omega),if_pos (by omega),if_pos (by omega),hb,if_neg (by omega),if_pos (by omega)]
   ·have e:decide (Dig (s.data.toList.drop i))=decide (Dig (s.data.toList.drop (i+1))):=decide_eq_decide.2 ⟨fun h=>(hdd.1 h).2,fun h=>hdd.2 ⟨by omega,h⟩⟩
    rw [e]
    refine Ev.step (f:=fun k=>nat_Right.l0 k s (s.size:Int) ((i+1:Nat):Int)) (fun k => ?_) (ih (i+1) (by omega) (by omega))
    simp only [nat_Right.l0]
    rw [if_pos (by omega),if_pos (by omega),if_pos (by omega),hb,if_neg (by omega),if_neg (by omega),w64' (by omega) (by omega)]
    rfl
def rightB (s:ByteArray):Bool:=decide (Can s.data.toList∧s.size≤600)
theorem can_iff {l:List UInt8} (h:0<l.length):Can l↔Dig l∧(l[0]=48→l.length=1):=by
 have:l.head? = some l[0]:=by rw [List.head?_eq_getElem?,List.getElem?_eq_getElem h]
 unfold Can
 rw [this]
 constructor
 ·rintro ⟨_,h2,h3⟩; exact ⟨h2,fun e=>h3 (by rw [e])⟩
 ·rintro ⟨h2,h3⟩; exact ⟨h,h2,fun e=>h3 (Option.some.inj e)⟩
theorem u48 {c:UInt8}:((c.toNat:Int)=48)↔c=48:=by
 have h:(48:UInt8).toNat=48:=rfl
 constructor
 ·intro e; exact UInt8.toNat_inj.1 (by omega)
 ·intro e; rw [e,h]; rfl
theorem nat_right_ev (s:ByteArray):Ev (fun k=>nat_Right.f k s) (rightB s):=by
 have hl:s.data.toList.length=s.size:=zah s
 have hF:∀ b,b=false→Ev (fun k=>nat_Right.j0 k s true) b:=fun b hb=>by
  subst hb
  refine Ev.step (f:=fun _=>some false) (fun k => ?_) (Ev.now _)
  simp [nat_Right.j0]
 unfold nat_Right.f rightB
 by_cases h0:(s.size:Int)=0
 ·refine Ev.congr (f:=fun k=>nat_Right.j0 k s true) (fun k=>if_pos h0) (hF _ (decide_eq_false (fun h=>by have:=h.1.1; omega)))
 ·by_cases h6:(s.size:Int)>600
  ·refine Ev.congr (f:=fun k=>nat_Right.j0 k s true) (fun k=>by rw [if_neg h0,if_pos h6]) (hF _ (decide_eq_false (fun h=>by have:=h.2; omega)))
  ·have hp:0<s.data.toList.length:=by omega
   have hb:=bt_nth s hp
   have hb0:bt s 0=(s.data.toList[0].toNat:Int):=hb
   have hL:=nat_loop s (by omega) s.size 0 (by omega) (by omega)
   rw [List.drop_zero] at hL
   have hgo:∀ b:Bool,(Dig s.data.toList↔b=true)→Ev (fun k=>nat_Right.j0 k s false) b:=fun b hb=>by
    have:b=decide (Dig s.data.toList):=by
     cases b
     ·exact (decide_eq_false (fun h=>by have:=hb.1 h; cases this)).symm
     ·exact (decide_eq_true (hb.2 rfl)).symm
    rw [this]
    refine Ev.step (fun k => ?_) hL
    simp only [nat_Right.j0]
    rfl
   by_cases h48:bt s 0=48
   ·by_cases h1:(s.size:Int)>1
    ·refine Ev.congr (f:=fun k=>nat_Right.j0 k s true) (fun k=>by rw [if_neg h0,if_neg h6,if_pos (by omega),if_pos h48,decide_eq_true h1]) (hF _ (decide_eq_false (fun h => ?_)))
     have:=((can_iff hp).1 h.1).2 (u48.1 (by omega))
     omega
    ·refine Ev.congr (f:=fun k=>nat_Right.j0 k s false) (fun k=>by rw [if_neg h0,if_neg h6,if_pos (by omega),if_pos h48,decide_eq_false h1]) (hgo _ ?_)
     rw [decide_eq_true_iff,can_iff hp]
     exact ⟨fun h=>⟨⟨h,fun _=>by omega⟩,by omega⟩,fun h=>h.1.1⟩
   ·refine Ev.congr (f:=fun k=>nat_Right.j0 k s false) (fun k=>by rw [if_neg h0,if_neg h6,if_pos (by omega),if_neg h48]) (hgo _ ?_)
    rw [decide_eq_true_iff,can_iff hp]
    exact ⟨fun h=>⟨⟨h,fun e=>absurd (by rw [hb0]; exact u48.2 e) h48⟩,by omega⟩,fun h=>h.1.1⟩
theorem right_iff {s:ByteArray}:rightB s=true↔∃ n,s=T n∧n<10^600:=by
 unfold rightB
 rw [decide_eq_true_iff]
 constructor
 ·rintro ⟨h1,h2⟩
  refine ⟨dval s.data.toList,can_T h1,?_⟩
  have:=zaB (n:=dval s.data.toList) (k:=600) (by decide)
  rw [←can_T h1] at this
  exact this.1 h2
 ·rintro ⟨n,rfl,hn⟩
  exact ⟨T_can n,(zaB (by decide)).2 hn⟩
theorem dig_T (n:Nat):Dig (T n).data.toList:=(T_can n).2.1
theorem zb6 (n:Nat):0<(T n).size:=by rw [zc2]; exact zaK n
theorem zbr (s:ByteArray) (w:World):Calls Tryz.prog 151 #[.string s] w fun e w'=>e = .returned (.bool (rightB s))∧Drawn0 w w':=by
 obtain ⟨k,hk⟩:=(nat_right_ev s).rounds
 exact nat_Right.calls k s _ w hk
theorem zce {w w':World} (h:Drawn0 w w'):Below w.heap.size w w':=by
 obtain ⟨n,rfl⟩:=h
 exact zai _ _
theorem zcu (s:ByteArray) (w:World) (h:rightB s=false) :
  Calls Tryz.prog 67 #[.string s] w fun e w'=>e = .returned (.pointer none)∧Below w.heap.size w w':=by
 have HR:=fun W=>zbr s W
 rw [h] at HR
 clear h
 go_enter Tryz.func67,Tryz.ntmps67
 go_wp2_with fail
 refine (HR _).mono ?_
 rintro e w1 ⟨rfl,hd⟩
 have hb:=zce hd
 go_wp2
 go_ret
 exact ⟨rfl,hb⟩
theorem zbx (n:Nat) (w:World) (h:n<10^600) :
  Calls Tryz.prog 67 #[.string (T n)] w fun e w'=>∃ D,e = .returned (.pointer (some ⟨D,0,none⟩))∧w.heap.size≤D∧IntAt w' D 0 n∧Below w.heap.size w w':=by
 have HR:=fun W=>zbr (T n) W
 rw [right_iff.2 ⟨n,rfl,h⟩] at HR
 have hs:(T n).size≤600:=(zaB (by decide)).2 h
 have hu105:=Tryz.underlying70
 have HH:=Lib.hid h
 clear h
 go_enter Tryz.func67,Tryz.ntmps67
 go_wp2_with fail
 refine (HR _).mono ?_
 rintro e w1 ⟨rfl,hd⟩
 have hb1:=zce hd
 have hnew:=IntAt.new w1 70 (by decide)
 have hba:=zaa (Below.refl w1.heap.size w1) (.cells #[.bool false,.slice none 0 0] 70)
 have hs1:=hb1.size
 clear hd
 go_wp2_with fail
 refine (zcm w1.heap.size 0 (T n) _ _ hnew.slot (dig_T n) (zb6 n) (by omega)).mono ?_
 rintro e w2 ⟨rfl,hx2,hu2⟩
 rw [zc4] at hx2
 have hb2:=hu2.new (bthen hb1 hba) hs1
 go_wp2
 go_ret
 exact ⟨_,rfl,hs1,hx2,hb2⟩
theorem za5 {x:Int} (h:0≤x):wtext x=T x.natAbs:=by unfold wtext T; rw [if_neg (by omega)]; rfl
theorem zaS {x:Int} (h:x<0):(wtext x).data.toList=45 :: (T x.natAbs).data.toList:=by unfold wtext; rw [if_pos h,T_data]; simp
theorem cut_minus (s:ByteArray):(∃ t,s.data.toList=45 :: t∧Lib.trimPrefix s.data.toList [45]=t∧Lib.hasPrefix s.data.toList [45]=true)∨((∀ t,s.data.toList≠45 :: t)∧Lib.trimPrefix s.data.toList [45]=s.data.toList∧Lib.hasPrefix s.data.toList [45]=false):=by
 unfold Lib.trimPrefix Lib.hasPrefix
 rcases s.data.toList with _|⟨c,t⟩
 ·exact Or.inr ⟨fun t h=>(by cases h),rfl,rfl⟩
 ·by_cases hc:c=45
  ·subst hc
   exact Or.inl ⟨t,rfl,by simp,by simp⟩
  ·have:(List.isPrefixOf [45] (c :: t))=false:=by simp [List.isPrefixOf]; exact fun h=>hc h.symm
   exact Or.inr ⟨fun t' h=>hc (by injection h),by rw [this]; rfl,this⟩
theorem zaT {s:ByteArray} {l:List UInt8} (h:s.data.toList=l):s=⟨l.toArray⟩:=by
 subst h; simp
def WR (s:ByteArray) (x:Int):Prop:=s=wtext x∧x.natAbs<10^600
theorem ten600:(10:Nat)^600≤2^2000:=by
 have h1:(10:Nat)^600=(10^3)^200:=by rw [←Nat.pow_mul]
 have h2:(2:Nat)^2000=(2^10)^200:=by rw [←Nat.pow_mul]
 rw [h1,h2]
 exact Nat.pow_le_pow_left (by decide) 200
theorem zc3 (n:Nat) (t:List UInt8):(T n).data.toList≠45 :: t:=fun h=>by
 have:=dig_T n 45 (by rw [h]; exact List.mem_cons_self)
 have h2:(45:UInt8).toNat=45:=rfl
 omega
theorem zcH (x:Int) (w:World) (h:x.natAbs<10^600) :
  Calls Tryz.prog 66 #[.string (wtext x)] w fun e w'=>∃ D,e = .returned (.pointer (some ⟨D,0,none⟩))∧w.heap.size≤D∧IntAt w' D 0 x∧Below w.heap.size w w':=by
 have HN:=fun W=>zbx x.natAbs W h
 have hbd:Bd 2000 (x.natAbs:Int):=by
  unfold Bd
  rw [Int.natAbs_natCast]
  exact Nat.lt_of_lt_of_le h ten600
 have HB:=Lib.hid hbd
 clear hbd h
 by_cases hx:x<0
 ·have hd:=zaS hx
  have hc:=fun W=>Tryz.strings_CutPrefix (wtext x) ⟨#[45]⟩ W
  have e1:Lib.trimPrefix (wtext x).data.toList (⟨#[45]⟩:ByteArray).data.toList=(T x.natAbs).data.toList:=by rw [hd]; simp [Lib.trimPrefix,Lib.hasPrefix]
  have e2:Lib.hasPrefix (wtext x).data.toList (⟨#[45]⟩:ByteArray).data.toList=true:=by rw [hd]; simp [Lib.hasPrefix]
  simp only [e1,e2] at hc
  rw [←zaT (rfl:(T x.natAbs).data.toList=_)] at hc
  have hne:(((x.natAbs:Nat):Int).sign == 0)=false:=beq_eq_false_iff_ne.2 (fun h=>by have:=Int.sign_eq_zero_iff_zero.1 h; omega)
  have hneg : -((x.natAbs:Nat):Int)=x:=by omega
  have HNG:=Lib.hid hneg
  clear hd e1 e2 hneg
  go_enter Tryz.func66,Tryz.ntmps66
  go_wp2_with fail
  refine (hc _).mono ?_
  rintro e w1 ⟨rfl,rfl⟩
  go_wp2_with fail
  refine (HN _).mono ?_
  rintro e w2 ⟨D,rfl,hD,hx2,hb2⟩
  go_wp2_with fail
  refine (zaI D 0 _ _ hx2).mono ?_
  rintro e w3 ⟨rfl,rfl⟩
  go_wp2_with fail
  refine (neg_calls D 0 D 0 _ _ hx2.slot hx2 HB.out (by unfold big; omega)).mono ?_
  rintro e w3 ⟨rfl,hx3,hu3⟩
  rw [HNG.out] at hx3
  go_wp2
  go_ret
  exact ⟨_,rfl,hD,hx3,hu3.new hb2 hD⟩
 ·have hd:=za5 (show 0≤x by omega)
  rw [hd]
  have hc:=fun W=>Tryz.strings_CutPrefix (T x.natAbs) ⟨#[45]⟩ W
  have hcm:Lib.trimPrefix (T x.natAbs).data.toList (⟨#[45]⟩:ByteArray).data.toList=(T x.natAbs).data.toList∧Lib.hasPrefix (T x.natAbs).data.toList (⟨#[45]⟩:ByteArray).data.toList=false:=by
   rcases cut_minus (T x.natAbs) with ⟨t,ht,_⟩|⟨_,h1,h2⟩
   ·exact absurd ht (zc3 _ _)
   ·exact ⟨h1,h2⟩
  simp only [hcm.1,hcm.2] at hc
  rw [←zaT (rfl:(T x.natAbs).data.toList=_)] at hc
  have HNG:=Lib.hid (show ((x.natAbs:Nat):Int)=x by omega)
  clear hd hcm
  go_enter Tryz.func66,Tryz.ntmps66
  go_wp2_with fail
  refine (hc _).mono ?_
  rintro e w1 ⟨rfl,rfl⟩
  go_wp2_with fail
  refine (HN _).mono ?_
  rintro e w2 ⟨D,rfl,hD,hx2,hb2⟩
  rw [HNG.out] at hx2
  go_wp2
  go_ret
  exact ⟨_,rfl,hD,hx2,hb2⟩
theorem whole_no (s:ByteArray) (w:World) (h:¬ ∃ x,WR s x) :
  Calls Tryz.prog 66 #[.string s] w fun e w'=>e = .returned (.pointer none)∧Below w.heap.size w w':=by
 have hc:=fun W=>Tryz.strings_CutPrefix s ⟨#[45]⟩ W
 rcases cut_minus s with ⟨t,ht,h1,h2⟩|⟨hno,h1,h2⟩
 ·have h1':Lib.trimPrefix s.data.toList (⟨#[45]⟩:ByteArray).data.toList=t:=h1
  have h2':Lib.hasPrefix s.data.toList (⟨#[45]⟩:ByteArray).data.toList=true:=h2
  simp only [h1',h2'] at hc
  by_cases hr:rightB ⟨t.toArray⟩=true
  ·obtain ⟨n,hn,hlt⟩:=right_iff.1 hr
   have hn0:n=0:=by
    apply Classical.byContradiction
    intro hn0
    refine h ⟨-(n:Int),?_,by omega⟩
    have e:=zaS (x:=-(n:Int)) (by omega)
    rw [show (-(n:Int)).natAbs=n by omega,←hn] at e
    have e2:s.data.toList=(wtext (-(n:Int))).data.toList:=by rw [e,ht]
    exact (zaT e2).trans (zaT rfl).symm
   subst hn0
   rw [hn] at hc
   have HN:=fun W=>zbx 0 W hlt
   clear h hr hlt h1 h2 h1' h2' ht hn
   go_enter Tryz.func66,Tryz.ntmps66
   go_wp2_with fail
   refine (hc _).mono ?_
   rintro e w1 ⟨rfl,rfl⟩
   go_wp2_with fail
   refine (HN _).mono ?_
   rintro e w2 ⟨D,rfl,hD,hx2,hb2⟩
   go_wp2_with fail
   refine (zaI D 0 _ _ hx2).mono ?_
   rintro e w3 ⟨rfl,rfl⟩
   go_wp2
   go_ret
   exact ⟨rfl,hb2⟩
  ·have HN:=fun W=>zcu ⟨t.toArray⟩ W (by simpa using hr)
   clear h hr h1 h2 h1' h2' ht
   go_enter Tryz.func66,Tryz.ntmps66
   go_wp2_with fail
   refine (hc _).mono ?_
   rintro e w1 ⟨rfl,rfl⟩
   go_wp2_with fail
   refine (HN _).mono ?_
   rintro e w2 ⟨rfl,hb2⟩
   go_wp2
   go_ret
   exact ⟨rfl,hb2⟩
 ·have h1':Lib.trimPrefix s.data.toList (⟨#[45]⟩:ByteArray).data.toList=s.data.toList:=h1
  have h2':Lib.hasPrefix s.data.toList (⟨#[45]⟩:ByteArray).data.toList=false:=h2
  simp only [h1',h2'] at hc
  rw [←zaT (rfl:s.data.toList=_)] at hc
  have hr:rightB s=false:=by
   cases hq:rightB s
   ·rfl
   ·obtain ⟨n,hn,hlt⟩:=right_iff.1 hq
    exact absurd ⟨(n:Int),by rw [hn,za5 (by omega),Int.natAbs_natCast],by omega⟩ h
  have HN:=fun W=>zcu s W hr
  clear h hr h1 h2 h1' h2' hno
  go_enter Tryz.func66,Tryz.ntmps66
  go_wp2_with fail
  refine (hc _).mono ?_
  rintro e w1 ⟨rfl,rfl⟩
  go_wp2_with fail
  refine (HN _).mono ?_
  rintro e w2 ⟨rfl,hb2⟩
  go_wp2
  go_ret
  exact ⟨rfl,hb2⟩
structure RR (a b:ByteArray) (x:Rat):Prop where
 num:a=wtext x.num
 den:b=T x.den
 ln:x.num.natAbs<10^600
 ld:x.den<10^600
theorem natural_any (s:ByteArray) (w:World):Calls Tryz.prog 67 #[.string s] w fun e w'=>∃ v,e = .returned (.pointer v)∧Below w.heap.size w w':=by
 cases hr:rightB s
 ·exact (zcu s w hr).mono fun e w' ⟨he,hb⟩=>⟨_,he,hb⟩
 ·obtain ⟨n,rfl,hn⟩:=right_iff.1 hr
  exact (zbx n w hn).mono fun e w' ⟨D,he,_,_,hb⟩=>⟨_,he,hb⟩
theorem bd600 {n:Nat} (h:n<10^600):Bd 2000 (n:Int):=by
 unfold Bd
 rw [Int.natAbs_natCast]
 exact Nat.lt_of_lt_of_le h ten600
theorem bd600' {x:Int} (h:x.natAbs<10^600):Bd 2000 x:=by
 unfold Bd
 exact Nat.lt_of_lt_of_le h ten600
theorem RR.bd {a b:ByteArray} {x:Rat} (h:RR a b x):Bdr 2000 x:=⟨bd600' h.ln,bd600 h.ld⟩
theorem read_noW (a b:ByteArray) (w:World) (h:¬ ∃ x,WR a x) :
  Calls Tryz.prog 57 #[.agg #[.string a,.string b]] w fun e w'=>e = .returned (.pointer none)∧Below w.heap.size w w':=by
 have HW:=fun W=>whole_no a W h
 have HN:=fun W=>natural_any b W
 clear h
 have c0:(w.alloc (.cells #[.string a,.string b] 23)).cell? ⟨w.heap.size,0,none⟩=some (.string a):=(zaf (zau w (.cells #[.string a,.string b] 23)) 0).trans rfl
 have c1:(w.alloc (.cells #[.string a,.string b] 23)).cell? ⟨w.heap.size,1,none⟩=some (.string b):=(zaf (zau w (.cells #[.string a,.string b] 23)) 1).trans rfl
 have hba:=zaa (Below.refl w.heap.size w) (.cells #[.string a,.string b] 23)
 go_enter Tryz.func57,Tryz.ntmps57
 go_wp2_with fail
 have hs0:=hba.size
 generalize w.alloc (.cells #[.string a,.string b] 23)=W0 at *
 generalize hBe:w.heap.size=B0 at c0 c1 ⊢
 have HBE:=Lib.hid hBe
 clear hBe
 go_region_held3 (fun w'=>w'.cell? ⟨B0,0,none⟩=some (.string a)∧w'.cell? ⟨B0,1,none⟩=some (.string b)) (refine ⟨?_,?_⟩<;>(repeat (with_reducible first|assumption|refine zbM ?_|refine bcell hb2 ?_|refine bcell hb1 ?_)))
  ((first
   | (go_simp; go_at_call 66; refine (HW _).mono ?_; rintro e w1 ⟨rfl,hb1⟩)
   | (go_simp; go_at_call 67; refine (HN _).mono ?_; rintro e w2 ⟨v,rfl,hb2⟩)
   ))
 all_goals
  have hBW:Below w.heap.size w w2:=(by repeat (with_reducible first|exact hba|apply zat|refine bthen ?_ hb2|refine bthen ?_ hb1))
  go_wp2
  go_ret
  exact ⟨rfl,hBW⟩
theorem read_noN (x:Int) (b:ByteArray) (w:World) (hx:x.natAbs<10^600) (h:rightB b=false) :
  Calls Tryz.prog 57 #[.agg #[.string (wtext x),.string b]] w fun e w'=>e = .returned (.pointer none)∧Below w.heap.size w w':=by
 have HW:=fun W=>zcH x W hx
 have HN:=fun W=>zcu b W h
 clear h hx
 generalize wtext x=a at *
 have c0:(w.alloc (.cells #[.string a,.string b] 23)).cell? ⟨w.heap.size,0,none⟩=some (.string a):=(zaf (zau w (.cells #[.string a,.string b] 23)) 0).trans rfl
 have c1:(w.alloc (.cells #[.string a,.string b] 23)).cell? ⟨w.heap.size,1,none⟩=some (.string b):=(zaf (zau w (.cells #[.string a,.string b] 23)) 1).trans rfl
 have hba:=zaa (Below.refl w.heap.size w) (.cells #[.string a,.string b] 23)
 go_enter Tryz.func57,Tryz.ntmps57
 go_wp2_with fail
 have hs0:=hba.size
 generalize w.alloc (.cells #[.string a,.string b] 23)=W0 at *
 generalize hBe:w.heap.size=B0 at c0 c1 ⊢
 have HBE:=Lib.hid hBe
 clear hBe
 go_region_held3 (fun w'=>w'.cell? ⟨B0,0,none⟩=some (.string a)∧w'.cell? ⟨B0,1,none⟩=some (.string b)) (refine ⟨?_,?_⟩<;>(repeat (with_reducible first|assumption|refine zbM ?_|refine bcell hb2 ?_|refine bcell hb1 ?_)))
  ((first
   | (go_simp; go_at_call 66; refine (HW _).mono ?_; rintro e w1 ⟨D,rfl,hD,hx1,hb1⟩)
   | (go_simp; go_at_call 67; refine (HN _).mono ?_; rintro e w2 ⟨rfl,hb2⟩)
   ))
 all_goals
  have hBW:Below w.heap.size w w2:=(by repeat (with_reducible first|exact hba|apply zat|refine bthen ?_ hb2|refine bthen ?_ hb1))
  clear hx1
  go_wp2
  go_ret
  exact ⟨rfl,hBW⟩
theorem read_zero (x:Int) (w:World) (hx:x.natAbs<10^600) :
  Calls Tryz.prog 57 #[.agg #[.string (wtext x),.string (T 0)]] w fun e w'=>e = .returned (.pointer none)∧Below w.heap.size w w':=by
 have HW:=fun W=>zcH x W hx
 have HN:=fun W=>zbx 0 W (Nat.pow_pos (by decide))
 clear hx
 generalize wtext x=a at *
 generalize T 0=b at *
 have c0:(w.alloc (.cells #[.string a,.string b] 23)).cell? ⟨w.heap.size,0,none⟩=some (.string a):=(zaf (zau w (.cells #[.string a,.string b] 23)) 0).trans rfl
 have c1:(w.alloc (.cells #[.string a,.string b] 23)).cell? ⟨w.heap.size,1,none⟩=some (.string b):=(zaf (zau w (.cells #[.string a,.string b] 23)) 1).trans rfl
 have hba:=zaa (Below.refl w.heap.size w) (.cells #[.string a,.string b] 23)
 go_enter Tryz.func57,Tryz.ntmps57
 go_wp2_with fail
 have hs0:=hba.size
 generalize w.alloc (.cells #[.string a,.string b] 23)=W0 at *
 generalize hBe:w.heap.size=B0 at c0 c1 ⊢
 have HBE:=Lib.hid hBe
 clear hBe
 go_region_held3 (fun w'=>w'.cell? ⟨B0,0,none⟩=some (.string a)∧w'.cell? ⟨B0,1,none⟩=some (.string b)) (refine ⟨?_,?_⟩<;>(repeat (with_reducible first|assumption|refine zbM ?_|refine bcell hb2 ?_|refine bcell hb1 ?_)))
  ((first
   | (go_simp; go_at_call 66; refine (HW _).mono ?_; rintro e w1 ⟨D,rfl,hD,hx1,hb1⟩)
   | (go_simp; go_at_call 67; refine (HN _).mono ?_; rintro e w2 ⟨E,rfl,hE,hy2,hb2⟩)
   ))
 all_goals
  have hBW:Below w.heap.size w w2:=(by repeat (with_reducible first|exact hba|apply zat|refine bthen ?_ hb2|refine bthen ?_ hb1))
  clear hx1
  go_wp2_with fail
  refine (zaI E 0 _ _ hy2).mono ?_
  rintro e w3 ⟨rfl,rfl⟩
  go_wp2
  go_ret
  exact ⟨rfl,hBW⟩
theorem read_gcd (x:Int) (n:Nat) (w:World) (hx:x.natAbs<10^600) (hn:n<10^600) (hn0:0<n) (hg:Int.gcd x n≠1) :
  Calls Tryz.prog 57 #[.agg #[.string (wtext x),.string (T n)]] w fun e w'=>e = .returned (.pointer none)∧Below w.heap.size w w':=by
 have HW:=fun W=>zcH x W hx
 have HN:=fun W=>zbx n W hn
 have HX:=Lib.hid (And.intro (bd600' hx) (bd600 hn))
 have hne:(((n:Nat):Int).sign == 0)=false:=beq_eq_false_iff_ne.2 (fun h=>by have:=Int.sign_eq_zero_iff_zero.1 h; omega)
 have hsg:((((Int.gcd x n:Nat):Int)-1).sign == 0)=false:=beq_eq_false_iff_ne.2 (fun h=>hg (by have:=Int.sign_eq_zero_iff_zero.1 h; omega))
 have HGG:=Lib.hid hg
 clear hx hn hg
 have hu105:=Tryz.underlying70
 generalize wtext x=a at *
 generalize T n=b at *
 have c0:(w.alloc (.cells #[.string a,.string b] 23)).cell? ⟨w.heap.size,0,none⟩=some (.string a):=(zaf (zau w (.cells #[.string a,.string b] 23)) 0).trans rfl
 have c1:(w.alloc (.cells #[.string a,.string b] 23)).cell? ⟨w.heap.size,1,none⟩=some (.string b):=(zaf (zau w (.cells #[.string a,.string b] 23)) 1).trans rfl
 have hba:=zaa (Below.refl w.heap.size w) (.cells #[.string a,.string b] 23)
 go_enter Tryz.func57,Tryz.ntmps57
 go_wp2_with fail
 have hs0:=hba.size
 generalize w.alloc (.cells #[.string a,.string b] 23)=W0 at *
 generalize hBe:w.heap.size=B0 at c0 c1 ⊢
 have HBE:=Lib.hid hBe
 clear hBe
 go_region_held3 (fun w'=>w'.cell? ⟨B0,0,none⟩=some (.string a)∧w'.cell? ⟨B0,1,none⟩=some (.string b)) (refine ⟨?_,?_⟩<;>(repeat (with_reducible first|assumption|refine zbM ?_|refine bcell hb2 ?_|refine bcell hb1 ?_)))
  ((first
   | (go_simp; go_at_call 66; refine (HW _).mono ?_; rintro e w1 ⟨D,rfl,hD,hx1,hb1⟩; have hlD:=hx1.lt; (try simp only [World.size_drew] at hD))
   | (go_simp; go_at_call 67; refine (HN _).mono ?_; rintro e w2 ⟨E,rfl,hE,hy2,hb2⟩; (try simp only [World.size_drew] at hE))
   ))
 all_goals
  have hBW:Below w.heap.size w w2:=(by repeat (with_reducible first|exact hba|apply zat|refine bthen ?_ hb2|refine bthen ?_ hb1))
  have hx2:IntAt w2 D 0 x:=(by repeat (with_reducible first|exact hx1|refine IntAt.below ?_ (zac _)|refine IntAt.below ?_ hb2))
  have hlD2:=hx2.lt
  have hlE:=hy2.lt
  clear hx1
  go_wp2_with fail
  refine (zaI E 0 _ _ hy2).mono ?_
  rintro e w3 ⟨rfl,rfl⟩
  have hnewG:=(IntAt.new w2 70 (by decide)).slot
  go_wp2_with fail
  have hn1:=slot1 w2
  have hba1:=bthen (zaa (Below.refl w2.heap.size w2) (.cells #[.bool false,.slice none 0 0] 70)) (zaa (Below.refl _ _) (.cells #[.bool false,.slice none 0 0] 70))
  have hx3:=hx2.below hba1
  refine (zcs (w2.heap.size+1) 0 D 0 x _ hn1 hx3 HX.out.1 (by unfold big; omega)).mono ?_
  rintro e w3 ⟨rfl,ha3,hu3⟩
  have hy3:IntAt w3 E 0 n:=(hy2.below hba1).upd hu3 (Or.inl (by omega))
  have hx4:=hx3.upd hu3 (Or.inl (by omega))
  have hG3:Slot w3 w2.heap.size 0:=(hnewG.below (zaa (Below.refl _ _) (.cells #[.bool false,.slice none 0 0] 70))).upd hu3
  have hB3:Below w2.heap.size w2 w3:=hu3.new hba1 (by omega)
  clear hx2 hx3 hy2 hn1 hnewG hba1 hu3
  go_wp2_with fail
  refine (gcd_calls w2.heap.size 0 (w2.heap.size+1) 0 E 0 _ _ (x.natAbs:Int) (n:Int) _ hG3 ha3 hy3 (by omega) (by omega) HX.out.1.abs HX.out.2 (by unfold big; omega)).mono ?_
  rintro e w4 ⟨rfl,hg4,hu4⟩
  have hg4':IntAt w4 w2.heap.size 0 ((Int.gcd x n:Nat):Int):=hg4
  have hx5:=hx4.upd hu4 (Or.inl (by omega))
  have hy5:=hy3.upd hu4 (Or.inl (by omega))
  have hB4:=hu4.new hB3 (Nat.le_refl _)
  clear hg4 hx4 hy3 hG3 ha3 hu4 hB3
  go_wp2_with fail
  refine (za2 1 _ (by decide) (by decide)).mono ?_
  rintro e w5 ⟨N1,rfl,hN1,hn5,hb5⟩
  have hg5:=hg4'.below hb5
  go_wp2_with fail
  refine (zcX w2.heap.size 0 N1 0 _ 1 _ hg5 hn5).mono ?_
  rintro e w6 ⟨rfl,hb6⟩
  have hx6:=(hx5.below hb5).below hb6
  have hy6:=(hy5.below hb5).below hb6
  have hB6:=bthen hBW (bthen hB4 (bthen hb5 hb6))
  clear hx5 hy5 hg4' hg5 hn5
  go_wp2
  go_ret
  exact ⟨rfl,hB6⟩
theorem read_one (x:Int) (n:Nat) (w:World) (hx:x.natAbs<10^600) (hn:n<10^600) (hn0:0<n) (hg:Int.gcd x n=1) :
  Calls Tryz.prog 57 #[.agg #[.string (wtext x),.string (T n)]] w fun e w'=>∃ g,e = .returned (.pointer (some ⟨g,0,none⟩))∧w.heap.size≤g∧RatAt w' g (Rat.divInt x n)∧Below w.heap.size w w':=by
 have HW:=fun W=>zcH x W hx
 have HN:=fun W=>zbx n W hn
 have HX:=Lib.hid (And.intro (bd600' hx) (bd600 hn))
 have hne:(((n:Nat):Int).sign == 0)=false:=beq_eq_false_iff_ne.2 (fun h=>by have:=Int.sign_eq_zero_iff_zero.1 h; omega)
 have hsg:((((Int.gcd x n:Nat):Int)-1).sign == 0)=true:=by rw [hg]; rfl
 have HGG:=Lib.hid hg
 clear hx hn hg
 have hu105:=Tryz.underlying70
 generalize wtext x=a at *
 generalize T n=b at *
 have c0:(w.alloc (.cells #[.string a,.string b] 23)).cell? ⟨w.heap.size,0,none⟩=some (.string a):=(zaf (zau w (.cells #[.string a,.string b] 23)) 0).trans rfl
 have c1:(w.alloc (.cells #[.string a,.string b] 23)).cell? ⟨w.heap.size,1,none⟩=some (.string b):=(zaf (zau w (.cells #[.string a,.string b] 23)) 1).trans rfl
 have hba:=zaa (Below.refl w.heap.size w) (.cells #[.string a,.string b] 23)
 go_enter Tryz.func57,Tryz.ntmps57
 go_wp2_with fail
 have hs0:=hba.size
 generalize w.alloc (.cells #[.string a,.string b] 23)=W0 at *
 generalize hBe:w.heap.size=B0 at c0 c1 ⊢
 have HBE:=Lib.hid hBe
 clear hBe
 go_region_held3 (fun w'=>w'.cell? ⟨B0,0,none⟩=some (.string a)∧w'.cell? ⟨B0,1,none⟩=some (.string b)) (refine ⟨?_,?_⟩<;>(repeat (with_reducible first|assumption|refine zbM ?_|refine bcell hb2 ?_|refine bcell hb1 ?_)))
  ((first
   | (go_simp; go_at_call 66; refine (HW _).mono ?_; rintro e w1 ⟨D,rfl,hD,hx1,hb1⟩; have hlD:=hx1.lt; (try simp only [World.size_drew] at hD))
   | (go_simp; go_at_call 67; refine (HN _).mono ?_; rintro e w2 ⟨E,rfl,hE,hy2,hb2⟩; (try simp only [World.size_drew] at hE))
   ))
 all_goals
  have hBW:Below w.heap.size w w2:=(by repeat (with_reducible first|exact hba|apply zat|refine bthen ?_ hb2|refine bthen ?_ hb1))
  have hx2:IntAt w2 D 0 x:=(by repeat (with_reducible first|exact hx1|refine IntAt.below ?_ (zac _)|refine IntAt.below ?_ hb2))
  have hlD2:=hx2.lt
  have hlE:=hy2.lt
  clear hx1
  go_wp2_with fail
  refine (zaI E 0 _ _ hy2).mono ?_
  rintro e w3 ⟨rfl,rfl⟩
  have hnewG:=(IntAt.new w2 70 (by decide)).slot
  go_wp2_with fail
  have hn1:=slot1 w2
  have hba1:=bthen (zaa (Below.refl w2.heap.size w2) (.cells #[.bool false,.slice none 0 0] 70)) (zaa (Below.refl _ _) (.cells #[.bool false,.slice none 0 0] 70))
  have hx3:=hx2.below hba1
  refine (zcs (w2.heap.size+1) 0 D 0 x _ hn1 hx3 HX.out.1 (by unfold big; omega)).mono ?_
  rintro e w3 ⟨rfl,ha3,hu3⟩
  have hy3:IntAt w3 E 0 n:=(hy2.below hba1).upd hu3 (Or.inl (by omega))
  have hx4:=hx3.upd hu3 (Or.inl (by omega))
  have hG3:Slot w3 w2.heap.size 0:=(hnewG.below (zaa (Below.refl _ _) (.cells #[.bool false,.slice none 0 0] 70))).upd hu3
  have hB3:Below w2.heap.size w2 w3:=hu3.new hba1 (by omega)
  clear hx2 hx3 hy2 hn1 hnewG hba1 hu3
  go_wp2_with fail
  refine (gcd_calls w2.heap.size 0 (w2.heap.size+1) 0 E 0 _ _ (x.natAbs:Int) (n:Int) _ hG3 ha3 hy3 (by omega) (by omega) HX.out.1.abs HX.out.2 (by unfold big; omega)).mono ?_
  rintro e w4 ⟨rfl,hg4,hu4⟩
  have hg4':IntAt w4 w2.heap.size 0 ((Int.gcd x n:Nat):Int):=hg4
  have hx5:=hx4.upd hu4 (Or.inl (by omega))
  have hy5:=hy3.upd hu4 (Or.inl (by omega))
  have hB4:=hu4.new hB3 (Nat.le_refl _)
  clear hg4 hx4 hy3 hG3 ha3 hu4 hB3
  go_wp2_with fail
  refine (za2 1 _ (by decide) (by decide)).mono ?_
  rintro e w5 ⟨N1,rfl,hN1,hn5,hb5⟩
  have hg5:=hg4'.below hb5
  go_wp2_with fail
  refine (zcX w2.heap.size 0 N1 0 _ 1 _ hg5 hn5).mono ?_
  rintro e w6 ⟨rfl,hb6⟩
  have hx6:=(hx5.below hb5).below hb6
  have hy6:=(hy5.below hb5).below hb6
  have hB6:=bthen hBW (bthen hB4 (bthen hb5 hb6))
  clear hx5 hy5 hg4' hg5 hn5
  have hnewR:=RatAt.new w6 83 (by decide)
  have hbaR:=zaa (Below.refl w6.heap.size w6) (.cells #[.bool false,.slice none 0 0,.bool false,.slice none 0 0] 83)
  have hu112:=Tryz.underlying83
  have hs6:=hB6.size
  go_wp2_with fail
  refine (zbc w6.heap.size D 0 E 0 x (n:Int) _ hnewR.slot (hx6.below hbaR) (hy6.below hbaR) (by omega) HX.out.1 HX.out.2 (by unfold big; omega)).mono ?_
  rintro e w7 ⟨rfl,hz7,hu7⟩
  go_wp2
  go_ret
  exact ⟨_,rfl,hs6,hz7,hu7.new (bthen hB6 hbaR) hs6⟩
theorem read_yes (x:Rat) (w:World) (hn:x.num.natAbs<10^600) (hd:x.den<10^600) :
  Calls Tryz.prog 57 #[.agg #[.string (wtext x.num),.string (T x.den)]] w fun e w'=>∃ g,e = .returned (.pointer (some ⟨g,0,none⟩))∧w.heap.size≤g∧RatAt w' g x∧Below w.heap.size w w':=by
 have h:=read_one x.num x.den w hn hd x.den_pos x.reduced
 rwa [zb2] at h
theorem read_no (a b:ByteArray) (w:World) (h:¬ ∃ x,RR a b x) :
  Calls Tryz.prog 57 #[.agg #[.string a,.string b]] w fun e w'=>e = .returned (.pointer none)∧Below w.heap.size w w':=by
 by_cases h1:∃ x,WR a x
 ·obtain ⟨x,rfl,hx⟩:=h1
  cases h2:rightB b
  ·exact read_noN x b w hx h2
  ·obtain ⟨n,rfl,hn⟩:=right_iff.1 h2
   rcases Nat.eq_zero_or_pos n with h0|h0
   ·subst h0; exact read_zero x w hx
   ·refine read_gcd x n w hx hn h0 (fun hg=>h ⟨⟨x,n,by omega,hg⟩,rfl,rfl,hx,hn⟩)
 ·exact read_noW a b w h1
def Sm (x:Rat):Prop:=x.num.natAbs<10^600∧x.den<10^600
noncomputable instance (x:Rat):Decidable (Sm x):=Classical.propDecidable _
noncomputable def toldR (x:Rat):ByteArray×ByteArray×Int:=if Sm x then (wtext x.num,T x.den,0) else (⟨#[]⟩,⟨#[]⟩,7)
theorem trim_wtext (x:Int):Lib.trimPrefix (wtext x).data.toList [45]=(T x.natAbs).data.toList:=by
 by_cases h:x<0
 ·rw [zaS h]; simp [Lib.trimPrefix,Lib.hasPrefix]
 ·rw [za5 (by omega)]
  rcases cut_minus (T x.natAbs) with ⟨t,ht,_⟩|⟨_,h1,_⟩
  ·exact absurd ht (zc3 _ _)
  ·exact h1
theorem zct (g:Nat) (x:Rat) (w:World) (hx:RatAt w g x) {n:Nat} (hs:Bdr n x) (hn:n≤big) :
  Calls Tryz.prog 68 #[.pointer (some ⟨g,0,none⟩)] w fun e w'=>e = .returned (.tuple #[.agg #[.string (toldR x).1,.string (toldR x).2.1],.int .i64 (toldR x).2.2])∧Below w.heap.size w w':=by
 have HB:=Lib.hid hs
 have HT:=fun W=>Tryz.strings_TrimPrefix (wtext x.num) ⟨#[45]⟩ W
 simp only [trim_wtext] at HT
 rw [←zaT (rfl:(T x.num.natAbs).data.toList=_)] at HT
 have HS:=Lib.hid (show toldR x=if Sm x then (wtext x.num,T x.den,0) else (⟨#[]⟩,⟨#[]⟩,7) from rfl)
 have hd1:Bd n (x.den:Int):=hs.2
 go_enter Tryz.func68,Tryz.ntmps68
 have hba:=zaa (Below.refl w.heap.size w) (.cells #[.string ⟨#[]⟩,.string ⟨#[]⟩] 23)
 have hbk:=zau w (.cells #[.string ⟨#[]⟩,.string ⟨#[]⟩] 23)
 go_wp2_with fail
 generalize w.alloc (.cells #[.string ⟨#[]⟩,.string ⟨#[]⟩] 23)=W0 at *
 generalize hBe:w.heap.size=B0 at hbk ⊢
 have HBE:=Lib.hid hBe
 clear hBe
 refine (num_new g x _ (hx.below hba) hs hn).mono ?_
 rintro e w1 ⟨D1,rfl,hD1,hx1,hb1⟩
 go_wp2_with fail
 refine (zck D1 0 x.num _ hx1 hs.1 hn).mono ?_
 rintro e w2 ⟨rfl,hb2⟩
 have hB2:=bthen hba (bthen hb1 hb2)
 have hk2:=bthen hb1 hb2
 clear hx1
 go_wp2_with fail
 refine (zbu g x _ (hx.below hB2) hs hn).mono ?_
 rintro e w3 ⟨D3,rfl,hD3,hx3,hb3⟩
 go_wp2_with fail
 refine (zck D3 0 x.den _ hx3 hd1 hn).mono ?_
 rintro e w4 ⟨rfl,hb4⟩
 have hB4:=bthen hB2 (bthen hb3 hb4)
 have hk4:=bthen hk2 (bthen hb3 hb4)
 have hbk4:=(hk4.block _ (zas hbk)).trans hbk
 rw [za5 (show (0:Int)≤(x.den:Int) by omega),Int.natAbs_natCast]
 clear hx3 hx
 go_wp2_with fail
 have hba5:=zaa (Below.refl w4.heap.size w4) (.cells #[.string (wtext x.num),.string (T x.den)] 23)
 have hbk5:=zau w4 (.cells #[.string (wtext x.num),.string (T x.den)] 23)
 have hb5k:=(hba5.block _ (zas hbk4)).trans hbk4
 have hB5:=bthen hB4 hba5
 have hne:B0≠w4.heap.size:=by have:=zas hbk4; omega
 generalize w4.alloc (.cells #[.string (wtext x.num),.string (T x.den)] 23)=w5 at *
 generalize w4.heap.size=R at *
 have cB0:=(zaf hb5k 0).trans (show _=some (Value.string ⟨#[]⟩) from rfl)
 have cB1:=(zaf hb5k 1).trans (show _=some (Value.string ⟨#[]⟩) from rfl)
 have fB0:=zad hb5k 0
 have fB1:=zad hb5k 1
 have cR0:=(zaf hbk5 0).trans (show _=some (Value.string (wtext x.num)) from rfl)
 have cR1:=(zaf hbk5 1).trans (show _=some (Value.string (T x.den)) from rfl)
 have HBK:=Lib.hid hb5k
 have hz1:=zav hb5k 0 (.string ⟨#[]⟩)
 have hz2:=zav hz1 1 (.string ⟨#[]⟩)
 have HZ2:=Lib.hid (hz2.trans (show _=some (Obj.cells #[.string ⟨#[]⟩,.string ⟨#[]⟩] 23 (0,0)) from rfl))
 have HBZ:=Lib.hid (zag (zag (g:=B0) (j:=0) (v:=.string ⟨#[]⟩) hB5 (by have:=HBE.out; omega)) (j:=1) (v:=.string ⟨#[]⟩) (g:=B0) (by have:=HBE.out; omega))
 clear hz1 hz2
 clear hbk hbk4 hbk5 hb5k hk2 hk4 hb1 hb2 hb3 hb4 hba5 hD1 hD3
 have HSM:=Lib.hid (show (Sm x↔(T x.num.natAbs).size≤600∧(T x.den).size≤600) from ⟨fun h=>⟨(zaB (by decide)).2 h.1,(zaB (by decide)).2 h.2⟩,fun h=>⟨(zaB (by decide)).1 h.1,(zaB (by decide)).1 h.2⟩⟩)
 by_cases h1:(T x.num.natAbs).size≤600
 ·have h1I:¬ (600:Int)<((T x.num.natAbs).size:Int):=by omega
  by_cases h2:(T x.den).size≤600
  ·have h2I:¬ (600:Int)<((T x.den).size:Int):=by omega
   refine (HT _).mono ?_
   rintro e w6 ⟨rfl,rfl⟩
   have hs1:=zav HBK.out 0 (.string (wtext x.num))
   have hs2:=zav hs1 1 (.string (T x.den))
   have HS2:=Lib.hid (hs2.trans (show _=some (Obj.cells #[.string (wtext x.num),.string (T x.den)] 23 (0,0)) from rfl))
   have hBF:=zag (zag (g:=B0) (j:=0) (v:=.string (wtext x.num)) hB5 (by have:=HBE.out; omega)) (j:=1) (v:=.string (T x.den)) (g:=B0) (by have:=HBE.out; omega)
   have HTE:=Lib.hid (show toldR x=(wtext x.num,T x.den,0) by rw [HS.out,if_pos (HSM.out.2 ⟨h1,h2⟩)])
   clear hs1 hs2 h1 h2
   go_wp2
   refine bodyPost_ret (zaC rfl _ _ B0 23 #[.string (wtext x.num),.string (T x.den)] (0,0) _ rfl HS2.out Tryz.underlying23 rfl (by kernel_rfl)) rfl ?_
   exact ⟨by rw [HTE.out]; rfl,hBF⟩
  ·have h2I:(600:Int)<((T x.den).size:Int):=by omega
   refine (HT _).mono ?_
   rintro e w6 ⟨rfl,rfl⟩
   have HTE:=Lib.hid (show toldR x=(⟨#[]⟩,⟨#[]⟩,7) by rw [HS.out,if_neg (fun h=>h2 (HSM.out.1 h).2)])
   clear h1 h2
   go_wp2
   refine bodyPost_ret (zaC rfl _ _ B0 23 #[.string ⟨#[]⟩,.string ⟨#[]⟩] (0,0) _ rfl HZ2.out Tryz.underlying23 rfl (by kernel_rfl)) rfl ?_
   exact ⟨by rw [HTE.out]; rfl,HBZ.out⟩
 ·have h1I:(600:Int)<((T x.num.natAbs).size:Int):=by omega
  refine (HT _).mono ?_
  rintro e w6 ⟨rfl,rfl⟩
  have HTE:=Lib.hid (show toldR x=(⟨#[]⟩,⟨#[]⟩,7) by rw [HS.out,if_neg (fun h=>h1 (HSM.out.1 h).1)])
  clear h1
  go_wp2
  refine bodyPost_ret (zaC rfl _ _ B0 23 #[.string ⟨#[]⟩,.string ⟨#[]⟩] (0,0) _ rfl HZ2.out Tryz.underlying23 rfl (by kernel_rfl)) rfl ?_
  exact ⟨by rw [HTE.out]; rfl,HBZ.out⟩
def tenR (n:Int):Rat:=if n<0 then (((10:Int)^n.natAbs:Int):Rat)⁻¹ else (((10:Int)^n.natAbs:Int):Rat)
theorem bd_ten (k:Nat):Bd (4*k+1) ((10:Int)^k):=(show Bd 4 (10:Int) by unfold Bd; decide).pow (by decide) k
theorem ten_ne (k:Nat):(((10:Int)^k:Int):Rat)≠0:=fun h=>by
 have h1:=Rat.intCast_eq_zero_iff.1 h
 have h2:(0:Int)<10^k:=Int.pow_pos (by decide)
 omega
theorem Bdr.tenR (n:Int):Bdr (4*n.natAbs+1) (tenR n):=by
 unfold ZP.tenR
 split
 ·exact (Bdr.int (bd_ten _) (by omega)).inv (ten_ne _)
 ·exact Bdr.int (bd_ten _) (by omega)
theorem zbN (n:Int) (w:World) (h0 : -100000≤n) (h1:n≤100000) :
  Calls Tryz.prog 86 #[.int .i64 n] w fun e w'=>∃ g,e = .returned (.pointer (some ⟨g,0,none⟩))∧w.heap.size≤g∧RatAt w' g (tenR n)∧Below w.heap.size w w':=by
 have hnew:=IntAt.new w 70 (by decide)
 have hba:=zaa (Below.refl w.heap.size w) (.cells #[.bool false,.slice none 0 0] 70)
 have hu105:=Tryz.underlying70
 have hu112:=Tryz.underlying83
 have HBT:=Lib.hid (bd_ten n.natAbs)
 by_cases hn:n<0
 ·have HT:=Lib.hid (show tenR n=(((10:Int)^n.natAbs:Int):Rat)⁻¹ by unfold tenR; rw [if_pos hn])
  go_enter Tryz.func86,Tryz.ntmps86
  go_wp2_with fail
  refine (za2 10 _ (by decide) (by decide)).mono ?_
  rintro e w1 ⟨N1,rfl,hN1,hx1,hb1⟩
  have hz1:=hnew.slot.below hb1
  have hB1:=bthen hba hb1
  have hl1:=hx1.lt
  go_wp2_with fail
  rw [show max n (-n)=((n.natAbs:Nat):Int) by omega]
  refine (za2 (n.natAbs:Int) _ (by omega) (by omega)).mono ?_
  rintro e w2 ⟨N2,rfl,hN2,hx2,hb2⟩
  have hx12:=hx1.below hb2
  have hz2:=hz1.below hb2
  have hB2:=bthen hB1 hb2
  clear hnew hba hb1 hb2 hx1 hz1 hB1
  go_wp2_with fail
  refine (exp_calls w.heap.size 0 N1 0 N2 0 _ 10 n.natAbs _ hz2 hx12 hx2 (show Bd 4 (10:Int) by unfold Bd; decide) (by decide) (by unfold big; omega)).mono ?_
  rintro e w3 ⟨rfl,hp3,hu3⟩
  have hB3:=hu3.new hB2 (Nat.le_refl _)
  have hs3:=hB3.size
  have hnewR:=RatAt.new w3 83 (by decide)
  have hbaR:=zaa (Below.refl w3.heap.size w3) (.cells #[.bool false,.slice none 0 0,.bool false,.slice none 0 0] 83)
  clear hx12 hx2 hz2 hu3
  go_wp2_with fail
  refine (zaP w3.heap.size w.heap.size 0 _ _ hnewR.slot (hp3.below hbaR) HBT.out (by unfold big; omega)).mono ?_
  rintro e w4 ⟨rfl,hz4,hu4⟩
  have hB4:=hu4.new (bthen hB3 hbaR) hs3
  clear hp3 hnewR hbaR hu4
  go_wp2_with fail
  refine (inv_calls w3.heap.size w3.heap.size _ _ hz4.slot hz4 (ten_ne _) (Bdr.int HBT.out (by omega)) (by unfold big; omega)).mono ?_
  rintro e w5 ⟨rfl,hz5,hu5⟩
  go_wp2
  go_ret
  exact ⟨_,rfl,hs3,by rw [HT.out]; exact hz5,hu5.new hB4 hs3⟩
 ·have HT:=Lib.hid (show tenR n=(((10:Int)^n.natAbs:Int):Rat) by unfold tenR; rw [if_neg hn])
  go_enter Tryz.func86,Tryz.ntmps86
  go_wp2_with fail
  refine (za2 10 _ (by decide) (by decide)).mono ?_
  rintro e w1 ⟨N1,rfl,hN1,hx1,hb1⟩
  have hz1:=hnew.slot.below hb1
  have hB1:=bthen hba hb1
  have hl1:=hx1.lt
  go_wp2_with fail
  rw [show max n (-n)=((n.natAbs:Nat):Int) by omega]
  refine (za2 (n.natAbs:Int) _ (by omega) (by omega)).mono ?_
  rintro e w2 ⟨N2,rfl,hN2,hx2,hb2⟩
  have hx12:=hx1.below hb2
  have hz2:=hz1.below hb2
  have hB2:=bthen hB1 hb2
  clear hnew hba hb1 hb2 hx1 hz1 hB1
  go_wp2_with fail
  refine (exp_calls w.heap.size 0 N1 0 N2 0 _ 10 n.natAbs _ hz2 hx12 hx2 (show Bd 4 (10:Int) by unfold Bd; decide) (by decide) (by unfold big; omega)).mono ?_
  rintro e w3 ⟨rfl,hp3,hu3⟩
  have hB3:=hu3.new hB2 (Nat.le_refl _)
  have hs3:=hB3.size
  have hnewR:=RatAt.new w3 83 (by decide)
  have hbaR:=zaa (Below.refl w3.heap.size w3) (.cells #[.bool false,.slice none 0 0,.bool false,.slice none 0 0] 83)
  clear hx12 hx2 hz2 hu3
  go_wp2_with fail
  refine (zaP w3.heap.size w.heap.size 0 _ _ hnewR.slot (hp3.below hbaR) HBT.out (by unfold big; omega)).mono ?_
  rintro e w4 ⟨rfl,hz4,hu4⟩
  have hB4:=hu4.new (bthen hB3 hbaR) hs3
  clear hp3 hnewR hbaR hu4
  go_wp2
  go_ret
  exact ⟨_,rfl,hs3,by rw [HT.out]; exact hz4,hB4⟩
theorem floor_calls (g:Nat) (x:Rat) (w:World) (hx:RatAt w g x) {n:Nat} (hs:Bdr n x) (hn:n≤big) :
  Calls Tryz.prog 82 #[.pointer (some ⟨g,0,none⟩)] w fun e w'=>∃ D,e = .returned (.pointer (some ⟨D,0,none⟩))∧w.heap.size≤D∧IntAt w' D 0 x.floor∧Below w.heap.size w w':=by
 have hu105:=Tryz.underlying70
 rw [Rat.floor_def]
 have hdn:=den_ne x
 go_enter Tryz.func82,Tryz.ntmps82
 have hnew:=IntAt.new w 70 (by decide)
 have hba:=zaa (Below.refl w.heap.size w) (.cells #[.bool false,.slice none 0 0] 70)
 have hd1:Bd n (x.den:Int):=hs.2
 have hn1:Bd n x.num:=hs.1
 go_wp2_with fail
 refine (num_new g x _ (hx.below hba) hs hn).mono ?_
 rintro e w1 ⟨N1,rfl,hN1,hx1,hb1⟩
 have hl1:=hx1.lt
 have hxx1:=(hx.below hba).below hb1
 go_wp2_with fail
 refine (zbu g x _ hxx1 hs hn).mono ?_
 rintro e w2 ⟨N2,rfl,hN2,hx2,hb2⟩
 have hl2:=hx2.lt
 have hs1:=hb1.size
 have hs2:=hb2.size
 simp only [World.size_alloc] at hN1 hs1
 have hz2:=(hnew.slot.below hb1).below hb2
 have hx12:=hx1.below hb2
 have hB2:=bthen (bthen hba hb1) hb2
 have hnewM:=IntAt.new w2 70 (by decide)
 have hbaM:=zaa (Below.refl w2.heap.size w2) (.cells #[.bool false,.slice none 0 0] 70)
 clear hnew hba hx hxx1 hb1 hb2 hx1
 go_wp2_with fail
 refine (divMod_calls w.heap.size 0 N1 0 N2 0 w2.heap.size 0 x.num x.den _ (hz2.below hbaM) hnewM.slot (by omega) (hx12.below hbaM) (hx2.below hbaM) hdn hn1 hd1 hn).mono ?_
 rintro e w3 ⟨rfl,hq3,hm3,w31,hu1,hu2⟩
 have hB3:=hu2.new (hu1.new (bthen hB2 hbaM) (Nat.le_refl _)) (by omega)
 go_wp2
 go_ret
 exact ⟨_,rfl,Nat.le_refl _,hq3,hB3⟩
end Go.Proofs.ZP
end
