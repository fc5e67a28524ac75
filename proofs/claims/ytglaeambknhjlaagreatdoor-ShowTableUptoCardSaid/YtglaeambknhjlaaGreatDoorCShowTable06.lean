/- Texts under the proof, joined by a program (prune.py): P19, HCompare, HSum, HLess. -/
import Derived.Test.YtglaeambknhjlaaGreatDoorCShowTable05
set_option linter.unusedVariables false
set_option linter.unusedSimpArgs false
set_option exponentiation.threshold 20001
set_option maxHeartbeats 8000000
set_option maxRecDepth 100000
section
namespace Go.Proofs.YtglaeambknhjlaaGreatDoor.P
open Go.RowKit Go.Proofs.YtglaeambknhjlaaGreatDoorW.PrintWords Go.Proofs.YtglaeambknhjlaaGreatDoorW.PrintLast Go.Proofs.YtglaeambknhjlaaGreatDoorW.PrintMore
attribute [local go_sem] max2_int min2_int max_two min_two max_three min_three max_four min_four
def ample_compare.l0:Nat→List Int→List Int→Int→Option (Int)
 | 0,_,_,_=>none
 | k+1,x0,x1,x5=>if x5≥0 then (if 0≤x5 then (if x5<(x0.length:Int) then (if x5<(x1.length:Int) then (if (rd x0 x5)=(rd x1 x5) then (ample_compare.l0 k x0 x1 (wrap64 (x5-1))) else (if (rd x0 x5)<(rd x1 x5) then (some (-1)) else (some 1))) else (none)) else (none)) else (none)) else (some 0)
def ample_compare.f (k:Nat) (l0:List Int) (l1:List Int):Option (Int):=if (l0.length:Int)=(l1.length:Int) then (ample_compare.l0 k l0 l1 (wrap64 ((l0.length:Int)-1))) else (some (wrap64 ((l0.length:Int)-(l1.length:Int))))
theorem ample_compare.calls (k : Nat) (A0 : Option Addr) (c0 : Nat) (l0 : List Int) (A1 : Option Addr) (c1 : Nat) (l1 : List Int) (r : Int) (w : World) (hr0 : Kd.C (Kd.int .u32) w A0 l0.length l0) (hc0 : l0.length ≤ c0) (hr1 : Kd.C (Kd.int .u32) w A1 l1.length l1) (hc1 : l1.length ≤ c1) (h : ample_compare.f k l0 l1 = some r) :
  Calls Tryz.prog 230 #[.slice A0 l0.length c0,.slice A1 l1.length c1] w fun e w'=>e = .returned (.int .i64 r)∧Drawn0 w w':=by
 have HR0:=Aside0.mk hr0
 have HC0:=Aside0.mk hc0
 clear hr0 hc0
 have HR1:=Aside0.mk hr1
 have HC1:=Aside0.mk hc1
 clear hr1 hc1
 have H:(if (l0.length:Int)=(l1.length:Int) then (ample_compare.l0 k l0 l1 (wrap64 ((l0.length:Int)-1))) else (some (wrap64 ((l0.length:Int)-(l1.length:Int)))))=some r:=h
 clear h
 by_cases c3:(l0.length:Int)=(l1.length:Int)
 ·rw [if_pos c3] at H
  have c3b0:((l0.length:Int) == (l1.length:Int))=true:=beq_iff_eq.mpr c3
  have c3b1:((l0.length:Int) != (l1.length:Int))=false:=bne_eq_false_iff_eq.mpr c3
  have c3b2:(l0.length == l1.length)=true:=by first|simpa using c3|(simp at c3 ⊢; omega)
  clear c3
  have H':=Aside0.mk H
  clear H
  go_enter Tryz.func230,Tryz.ntmps230
  go_wp2
  repeat (go_quiet (fail); try go_wp2)
  go_loopg [5] k (fun kq v5 w'=>∃ (x5_1:Int),v5 = .int .i64 x5_1∧Aside0 (ample_compare.l0 kq l0 l1 x5_1=some r)∧Aside0 (kq≤k)∧Drawn0 w w')
  case atStart=>exact ⟨(wrap64 ((l0.length:Int)-1)),(by first|rfl|(simp; done)|(simp [*]; done)),H',⟨Nat.le_refl _⟩,by repeat (first|exact Drawn0.refl _|apply Drawn0.step)⟩
  case round =>
   clear H'
   try clear c1
   try clear c2
   try clear p2
   try clear c3
   try clear c3b0
   try clear c3b1
   try clear c3b2
   obtain ⟨x5_1,rfl,HA,HK1,⟨m1,rfl⟩⟩:=hrel
   cases gk with
   | zero=>exact absurd HA.out (by simp [ample_compare.l0])
   | succ k1 =>
    have H:=HA.out
    clear HA
    simp only [ample_compare.l0] at H
    by_cases c4:x5_1≥0
    ·rw [if_pos c4] at H
     have c4b0:decide (0≤x5_1)=true:=decide_eq_true c4
     clear c4
     by_cases c5:0≤x5_1
     ·rw [if_pos c5] at H
      have c5b0:decide (0≤x5_1)=true:=decide_eq_true c5
      clear c5
      by_cases c6:x5_1<(l0.length:Int)
      ·rw [if_pos c6] at H
       have c6b0:decide (x5_1<(l0.length:Int))=true:=decide_eq_true c6
       clear c6
       by_cases c7:x5_1<(l1.length:Int)
       ·rw [if_pos c7] at H
        have c7b0:decide (x5_1<(l1.length:Int))=true:=decide_eq_true c7
        clear c7
        by_cases c8:(rd l0 x5_1)=(rd l1 x5_1)
        ·rw [if_pos c8] at H
         have c8b0:((rd l0 x5_1) == (rd l1 x5_1))=true:=beq_iff_eq.mpr c8
         have c8b1:((rd l0 x5_1) != (rd l1 x5_1))=false:=bne_eq_false_iff_eq.mpr c8
         clear c8
         have H':=Aside0.mk H
         clear H
         have p125:0≤(x5_1:Int):=of_decide_eq_true (by first|(with_reducible assumption)|assumption)
         have q125:x5_1<(l0.length:Int):=of_decide_eq_true (by first|(with_reducible assumption)|assumption)
         obtain ⟨ad125,e125,hx125_0⟩:=Kd.at_int HR0.out x5_1 p125 q125
         cases e125
         replace p125:=eq_true p125
         replace q125:=eq_true q125
         have p126:0≤(x5_1:Int):=of_decide_eq_true (by first|(with_reducible assumption)|assumption)
         have q126:x5_1<(l1.length:Int):=of_decide_eq_true (by first|(with_reducible assumption)|assumption)
         obtain ⟨ad126,e126,hx126_0⟩:=Kd.at_int HR1.out x5_1 p126 q126
         cases e126
         replace p126:=eq_true p126
         replace q126:=eq_true q126
         go_wp2
         repeat (go_quiet (fail); try go_wp2)
         go_roundg k1
         case measure=>have:=HK1.out; omega
         case rel=>exact ⟨(wrap64 (x5_1-1)),(by first|rfl|(simp; done)|(simp [*]; done)),H',⟨by have:=HK1.out; omega⟩,by repeat (first|exact Drawn0.refl _|apply Drawn0.step)⟩
        ·rw [if_neg c8] at H
         have c8b0:((rd l0 x5_1) == (rd l1 x5_1))=false:=beq_eq_false_iff_ne.mpr c8
         have c8b1:((rd l0 x5_1) != (rd l1 x5_1))=true:=bne_iff_ne.mpr c8
         by_cases c9:(rd l0 x5_1)<(rd l1 x5_1)
         ·rw [if_pos c9] at H
          have c9b0:decide ((rd l0 x5_1)<(rd l1 x5_1))=true:=decide_eq_true c9
          clear c9
          obtain rfl:=Option.some.inj H
          have p125:0≤(x5_1:Int):=of_decide_eq_true (by first|(with_reducible assumption)|assumption)
          have q125:x5_1<(l0.length:Int):=of_decide_eq_true (by first|(with_reducible assumption)|assumption)
          obtain ⟨ad125,e125,hx125_0⟩:=Kd.at_int HR0.out x5_1 p125 q125
          cases e125
          replace p125:=eq_true p125
          replace q125:=eq_true q125
          have p126:0≤(x5_1:Int):=of_decide_eq_true (by first|(with_reducible assumption)|assumption)
          have q126:x5_1<(l1.length:Int):=of_decide_eq_true (by first|(with_reducible assumption)|assumption)
          obtain ⟨ad126,e126,hx126_0⟩:=Kd.at_int HR1.out x5_1 p126 q126
          cases e126
          replace p126:=eq_true p126
          replace q126:=eq_true q126
          have p127:0≤(x5_1:Int):=of_decide_eq_true (by first|(with_reducible assumption)|assumption)
          have q127:x5_1<(l0.length:Int):=of_decide_eq_true (by first|(with_reducible assumption)|assumption)
          obtain ⟨ad127,e127,hx127_0⟩:=Kd.at_int HR0.out x5_1 p127 q127
          obtain rfl:ad125=ad127:=(by injection e127)
          replace p127:=eq_true p127
          replace q127:=eq_true q127
          have p128:0≤(x5_1:Int):=of_decide_eq_true (by first|(with_reducible assumption)|assumption)
          have q128:x5_1<(l1.length:Int):=of_decide_eq_true (by first|(with_reducible assumption)|assumption)
          obtain ⟨ad128,e128,hx128_0⟩:=Kd.at_int HR1.out x5_1 p128 q128
          obtain rfl:ad126=ad128:=(by injection e128)
          replace p128:=eq_true p128
          replace q128:=eq_true q128
          go_wp2
          repeat (go_quiet (fail); try go_wp2)
          go_ret
          exact ⟨by first|rfl|(simp; done)|(simp [*]; done),by repeat (first|exact Drawn0.refl _|apply Drawn0.step)⟩
         ·rw [if_neg c9] at H
          have c9b0:decide ((rd l0 x5_1)<(rd l1 x5_1))=false:=decide_eq_false c9
          clear c9
          obtain rfl:=Option.some.inj H
          have p125:0≤(x5_1:Int):=of_decide_eq_true (by first|(with_reducible assumption)|assumption)
          have q125:x5_1<(l0.length:Int):=of_decide_eq_true (by first|(with_reducible assumption)|assumption)
          obtain ⟨ad125,e125,hx125_0⟩:=Kd.at_int HR0.out x5_1 p125 q125
          cases e125
          replace p125:=eq_true p125
          replace q125:=eq_true q125
          have p126:0≤(x5_1:Int):=of_decide_eq_true (by first|(with_reducible assumption)|assumption)
          have q126:x5_1<(l1.length:Int):=of_decide_eq_true (by first|(with_reducible assumption)|assumption)
          obtain ⟨ad126,e126,hx126_0⟩:=Kd.at_int HR1.out x5_1 p126 q126
          cases e126
          replace p126:=eq_true p126
          replace q126:=eq_true q126
          have p127:0≤(x5_1:Int):=of_decide_eq_true (by first|(with_reducible assumption)|assumption)
          have q127:x5_1<(l0.length:Int):=of_decide_eq_true (by first|(with_reducible assumption)|assumption)
          obtain ⟨ad127,e127,hx127_0⟩:=Kd.at_int HR0.out x5_1 p127 q127
          obtain rfl:ad125=ad127:=(by injection e127)
          replace p127:=eq_true p127
          replace q127:=eq_true q127
          have p128:0≤(x5_1:Int):=of_decide_eq_true (by first|(with_reducible assumption)|assumption)
          have q128:x5_1<(l1.length:Int):=of_decide_eq_true (by first|(with_reducible assumption)|assumption)
          obtain ⟨ad128,e128,hx128_0⟩:=Kd.at_int HR1.out x5_1 p128 q128
          obtain rfl:ad126=ad128:=(by injection e128)
          replace p128:=eq_true p128
          replace q128:=eq_true q128
          go_wp2
          repeat (go_quiet (fail); try go_wp2)
          go_ret
          exact ⟨by first|rfl|(simp; done)|(simp [*]; done),by repeat (first|exact Drawn0.refl _|apply Drawn0.step)⟩
       ·rw [if_neg c7] at H
        exact absurd H (by simp)
      ·rw [if_neg c6] at H
       exact absurd H (by simp)
     ·rw [if_neg c5] at H
      exact absurd H (by simp)
    ·rw [if_neg c4] at H
     have c4b0:decide (0≤x5_1)=false:=decide_eq_false c4
     clear c4
     obtain rfl:=Option.some.inj H
     go_wp2
     repeat (go_quiet (fail); try go_wp2)
     go_ret
     exact ⟨by first|rfl|(simp; done)|(simp [*]; done),by repeat (first|exact Drawn0.refl _|apply Drawn0.step)⟩
 ·rw [if_neg c3] at H
  have c3b0:((l0.length:Int) == (l1.length:Int))=false:=beq_eq_false_iff_ne.mpr c3
  have c3b1:((l0.length:Int) != (l1.length:Int))=true:=bne_iff_ne.mpr c3
  have c3b2:(l0.length == l1.length)=false:=by first|simpa using c3|(simp at c3 ⊢; omega)
  obtain rfl:=Option.some.inj H
  go_enter Tryz.func230,Tryz.ntmps230
  go_wp2
  repeat (go_quiet (fail); try go_wp2)
  go_ret
  exact ⟨by first|rfl|(simp; done)|(simp [*]; done),by repeat (first|exact Drawn0.refl _|apply Drawn0.step)⟩
end Go.Proofs.YtglaeambknhjlaaGreatDoor.P
end
section
namespace Go.Proofs.YtglaeambknhjlaaGreatDoor.P
open Go.RowKit Go.Proofs.YtglaeambknhjlaaGreatDoorW.PrintWords
theorem w64 {x:Int} (h0 : -9223372036854775808≤x) (h1:x<9223372036854775808):wrap64 x=x:=by unfold wrap64; omega
theorem val_take_succ {xs:List Int} {i:Nat} (h:i<xs.length):val (xs.take (i+1))=val (xs.take i)+4294967296^i*rd xs i:=by
 rw [List.take_succ_eq_append_getElem h,val_append]
 have e:rd xs (i:Int)=xs[i]:=by
  unfold Go.Proofs.YtglaeambknhjlaaGreatDoorW.PrintWords.rd
  rw [Int.toNat_natCast,List.getD_eq_getElem?_getD,List.getElem?_eq_getElem h]; rfl
 rw [e,List.length_take,Nat.min_eq_left (Nat.le_of_lt h)]
 simp [val]
theorem ret_int {k:IntKind} {a b:Int} (h:a=b):Ending.returned (.int k a)=Ending.returned (.int k b):=by rw [h]
theorem sign_cases (r:Int):(r.sign=1∧0<r)∨(r.sign=0∧r=0)∨(r.sign = -1∧r<0):=by
 rcases Int.lt_trichotomy r 0 with h|h|h
 ·exact .inr (.inr ⟨Int.sign_eq_neg_one_of_neg h,h⟩)
 ·subst h; exact .inr (.inl ⟨rfl,rfl⟩)
 ·exact .inl ⟨Int.sign_eq_one_of_pos h,h⟩
theorem compare_loop (xs ys:List Int) (hx:Wd xs) (hy:Wd ys) (hl:xs.length=ys.length) (hm:xs.length≤9223372036854775807):∀ (i:Nat),i≤xs.length→val xs-val ys=val (xs.take i)-val (ys.take i) →
  ∀ k,i<k→∃ r,ample_compare.l0 k xs ys ((i:Int)-1)=some r∧r.sign=(val xs-val ys).sign ∧ -1≤r∧r≤1:=by
 intro i
 induction i with
 | zero =>
  intro _ he k hk
  obtain ⟨k,rfl⟩:∃ m,k=m+1:=⟨k-1,by omega⟩
  refine ⟨0,?_,by rw [he]; simp [val],by decide,by decide⟩
  simp only [ample_compare.l0]
  rw [if_neg (by omega)]
 | succ i ih =>
  intro hi he k hk
  obtain ⟨k,rfl⟩:∃ m,k=m+1:=⟨k-1,by omega⟩
  have e1:(((i+1:Nat):Int)-1)=(i:Int):=by omega
  rw [e1]
  have hxi:=val_take_succ (xs:=xs) (i:=i) (by omega)
  have hyi:=val_take_succ (xs:=ys) (i:=i) (by omega)
  simp only [ample_compare.l0]
  rw [if_pos (by omega),if_pos (by omega),if_pos (by omega),if_pos (by omega)]
  by_cases heq:rd xs (i:Int)=rd ys (i:Int)
  ·rw [if_pos heq,w64 (by omega) (by omega)]
   exact ih (by omega) (by rw [he,hxi,hyi,heq]; omega) k (by omega)
  ·rw [if_neg heq]
   have bx:=val_lt (hx.take i)
   have by_:=val_lt (hy.take i)
   have nx:=val_nonneg (hx.take i)
   have ny:=val_nonneg (hy.take i)
   rw [List.length_take,Nat.min_eq_left (by omega)] at bx by_
   have hp:(0:Int)<4294967296^i:=Int.pow_pos (by decide)
   by_cases hlt:rd xs (i:Int)<rd ys (i:Int)
   ·rw [if_pos hlt]
    refine ⟨-1,rfl,?_,by decide,by decide⟩
    rw [he,hxi,hyi]
    have:4294967296^i*(rd xs (i:Int)+1)≤4294967296^i*rd ys (i:Int):=Int.mul_le_mul_of_nonneg_left (by omega) (by omega)
    rw [Int.mul_add,Int.mul_one] at this
    exact (Int.sign_eq_neg_one_of_neg (by omega)).symm
   ·rw [if_neg hlt]
    refine ⟨1,rfl,?_,by decide,by decide⟩
    rw [he,hxi,hyi]
    have:4294967296^i*(rd ys (i:Int)+1)≤4294967296^i*rd xs (i:Int):=Int.mul_le_mul_of_nonneg_left (by omega) (by omega)
    rw [Int.mul_add,Int.mul_one] at this
    exact (Int.sign_eq_one_of_pos (by omega)).symm
theorem val_lt_of_len {xs ys:List Int} (hx:Wd xs) (hy:Wd ys) (ht:ys.getLast? ≠ some 0) (h:xs.length<ys.length):val xs<val ys:=by
 have h1:=val_lt hx
 have h2:=val_pos hy ht (by rintro rfl; simp at h)
 have h3:(4294967296:Int)^xs.length≤4294967296^(ys.length-1):=by
  have:(4294967296:Nat)^xs.length≤4294967296^(ys.length-1):=Nat.pow_le_pow_right (by decide) (by omega)
  have:=Int.ofNat_le.2 this
  rwa [Int.natCast_pow,Int.natCast_pow] at this
 omega
theorem compare_tells (xs ys:List Int) (hx:Wd xs) (hy:Wd ys) (tx:xs.getLast? ≠ some 0) (ty:ys.getLast? ≠ some 0) (hm:xs.length≤9223372036854775807) (hm':ys.length≤9223372036854775807) :
  ∃ k r,ample_compare.f k xs ys=some r∧r.sign=(val xs-val ys).sign ∧ -9223372036854775807≤r∧r≤9223372036854775807:=by
 by_cases hl:xs.length=ys.length
 ·obtain ⟨r,hr,hs,h1,h2⟩:=compare_loop xs ys hx hy hl hm xs.length (Nat.le_refl _) (by rw [List.take_length,List.take_of_length_le (by omega)]) (xs.length+1) (by omega)
  refine ⟨xs.length+1,r,?_,hs,by omega,by omega⟩
  unfold ample_compare.f
  rw [if_pos (by omega),w64 (by omega) (by omega)]; exact hr
 ·refine ⟨0,(xs.length:Int)-ys.length,?_,?_,by omega,by omega⟩
  ·unfold ample_compare.f
   rw [if_neg (by omega),w64 (by omega) (by omega)]
  ·rcases Nat.lt_or_gt_of_ne hl with h|h
   ·have:=val_lt_of_len hx hy ty h
    rw [Int.sign_eq_neg_one_of_neg (by omega:_<(0:Int)),Int.sign_eq_neg_one_of_neg (by omega:_<(0:Int))]
   ·have:=val_lt_of_len hy hx tx h
    rw [Int.sign_eq_one_of_pos (by omega:(0:Int)<_),Int.sign_eq_one_of_pos (by omega:(0:Int)<_)]
theorem compare_words (A:Option Addr) (c:Nat) (xs:List Int) (A':Option Addr) (c':Nat) (ys:List Int) (w:World) (hx:WAt w A c xs) (hy:WAt w A' c' ys) (dx:Wd xs) (dy:Wd ys) (tx:xs.getLast? ≠ some 0) (ty:ys.getLast? ≠ some 0) :
  Calls Tryz.prog 230 #[.slice A xs.length c,.slice A' ys.length c'] w fun e w'=>∃ r:Int,e = .returned (.int .i64 r)∧r.sign=(val xs-val ys).sign∧(-9223372036854775807≤r∧r≤9223372036854775807)∧Drawn0 w w':=by
 obtain ⟨k,r,hr,hs,h1,h2⟩:=compare_tells xs ys dx dy tx ty hx.lmax hy.lmax
 exact (ample_compare.calls k A c xs A' c' ys r w hx.row hx.le hy.row hy.le hr).mono fun e w' ⟨he,hd⟩=>⟨r,he,hs,⟨h1,h2⟩,hd⟩
structure Cut (ws:List Int) (n:Nat):Prop where
 le:n≤ws.length
 eq:val (ws.take n)=val ws
 top:(ws.take n).getLast? ≠ some 0
theorem trim_calls (A:Option Addr) (c:Nat) (ws:List Int) (w:World) (hw:WAt w A c ws) (hwd:Wd ws) :
  Calls Tryz.prog 190 #[.slice A ws.length c] w fun e w'=>∃ n:Nat,e = .returned (.slice A n c)∧Cut ws n∧w=w':=by
 have hmax:=hw.lmax
 have hlc:=hw.le
 go_enter Tryz.func190,Tryz.ntmps190
 go_wp2
 go_loop [0] (fun v=>∃ n:Nat,n≤ws.length∧v = .slice A n c∧val (ws.take n)=val ws) (fun v=>match v with|.slice _ n _=>n|_=>0)
 case atStart=>exact ⟨ws.length,Nat.le_refl _,rfl,by rw [List.take_length]⟩
 case round =>
  obtain ⟨n,hn,rfl,hv⟩:=hrel
  have HV:=Lib.hid hv
  clear hv
  rcases Nat.eq_zero_or_pos n with h0|h0
  ·subst h0
   go_wp2
   go_ret
   exact ⟨0,rfl,⟨Nat.zero_le _,HV.out,by simp⟩,rfl⟩
  ·obtain ⟨ad,rfl⟩:=hw.ptr (by omega)
   have hcell:=hw.cell (j:=n-1) (by omega)
   by_cases hz0:ws.getD (n-1) 0=0
   ·have hv2:=val_take_zero h0 hn hz0
    have HV2:=Lib.hid hv2
    clear hv2
    rw [hz0] at hcell
    clear hz0
    go_wp2
    go_round
    case rel=>exact ⟨n-1,by omega,by first|(simp; done)|(simp; omega),HV2.out.symm.trans HV.out⟩
    case measure=>simp; omega
   ·have hb:(ws.getD (n-1) 0 == 0)=false:=beq_eq_false_iff_ne.2 hz0
    have hN:=norm_cut (neg:=false) hwd hn HV.out (.inr hz0)
    have HN:=Lib.hid hN
    generalize ws.getD (n-1) 0=u at hcell hb
    clear hN hz0
    go_wp2
    go_ret
    exact ⟨n,rfl,⟨hn,HV.out,HN.out.top⟩,rfl⟩
theorem cmp_calls (b o b' o':Nat) (x y:Int) (w:World) (hx:IntAt w b o x) (hy:IntAt w b' o' y) :
  Calls Tryz.prog 185 #[.pointer (some ⟨b,o,none⟩),.pointer (some ⟨b',o',none⟩)] w fun e w'=>e = .returned (.int .i64 (x-y).sign)∧Below w.heap.size w w':=by
 obtain ⟨neg,A,c,ws,h1,h2,h3,h4⟩:=hx.out
 obtain ⟨neg',A',c',ws',k1,k2,k3,k4⟩:=hy.out
 have hm1:=h3.lmax
 have hm2:=k3.lmax
 go_enter Tryz.func185,Tryz.ntmps185
 go_wp2_with fail
 go_region_held3 (fun w'=>w'.cell? ⟨b,o,none⟩=some (.bool neg)∧w'.cell? ⟨b,o+1,none⟩=some (.slice A ws.length c)∧w'.cell? ⟨b',o',none⟩=some (.bool neg')∧w'.cell? ⟨b',o'+1,none⟩=some (.slice A' ws'.length c'))
  (first|go_keep|exact ⟨h1,h2,k1,k2⟩)
  ((first
   | (go_simp; go_at_call 230; refine (compare_words A c ws A' c' ws' _ (h3.below (below_drew' _)) (k3.below (below_drew' _)) h4.wd k4.wd h4.top k4.top).mono ?_; rintro e w1 ⟨r,rfl,hr,hrb,⟨⟨nd,rfl⟩⟩⟩)))
 rename_i hHeld
 generalize hq:w.drewN _=w1 at hHeld ⊢
 have hb1:Below w.heap.size w w1:=by subst hq; exact pw_below_drewN (Below.refl _ _) _
 have HB1:=Lib.hid hb1
 have hx1:=hx.below hb1
 have hy1:=hy.below hb1
 clear hq hb1 h1 h2 k1 k2
 obtain ⟨h1,h2,k1,k2⟩:=hHeld
 have ex:=h4.eq
 have ey:=k4.eq
 have EX:=Lib.hid ex
 have EY:=Lib.hid ey
 clear ex ey
 cases neg<;>cases neg'
 ·have key:(x-y).sign=r.sign:=by rw [hr,EX.out,EY.out]; rfl
  have KEY:=Lib.hid key
  clear key
  go_wp2_with fail
  go_quiet (fail)
  go_wp2_with fail
  all_goals
   go_ret
   refine ⟨ret_int ?_,HB1.out.trans ⟨rfl,rfl,rfl,Nat.le_refl _,fun _ _=>rfl⟩⟩
   rw [KEY.out]
   rcases sign_cases r with ⟨hs,hr0⟩|⟨hs,hr0⟩|⟨hs,hr0⟩<;>rw [hs]<;>omega
 ·have key:(x-y).sign=(x.sign-y.sign).sign:=by
   have:=h4.neg_iff
   have:=k4.neg_iff
   simp at *
   rcases sign_cases x with ⟨hs,hr0⟩|⟨hs,hr0⟩|⟨hs,hr0⟩<;>rcases sign_cases y with ⟨ht,ht0⟩|⟨ht,ht0⟩|⟨ht,ht0⟩<;>rw [hs,ht]<;>first
    | (exfalso; omega)
    | exact Int.sign_eq_one_of_pos (by omega)
    | exact Int.sign_eq_neg_one_of_neg (by omega)
  have KEY:=Lib.hid key
  have hsx : -1≤x.sign∧x.sign≤1:=by rcases sign_cases x with ⟨hs,_⟩|⟨hs,_⟩|⟨hs,_⟩<;>rw [hs]<;>decide
  have hsy : -1≤y.sign∧y.sign≤1:=by rcases sign_cases y with ⟨hs,_⟩|⟨hs,_⟩|⟨hs,_⟩<;>rw [hs]<;>decide
  obtain ⟨sx1,sx2⟩:=hsx
  obtain ⟨sy1,sy2⟩:=hsy
  clear key
  go_wp2_with fail
  go_quiet (fail)
  go_wp2_with fail
  refine (sign_calls b o x _ (hx1.below (pw_below_drewN (Below.refl _ _) _))).mono ?_
  rintro e w2 ⟨rfl,rfl⟩
  go_wp2_with fail
  refine (sign_calls b' o' y _ (hy1.below (pw_below_drewN (Below.refl _ _) _))).mono ?_
  rintro e w2 ⟨rfl,rfl⟩
  go_wp2_with fail
  all_goals
   go_ret
   refine ⟨ret_int ?_,HB1.out.trans ⟨rfl,rfl,rfl,Nat.le_refl _,fun _ _=>rfl⟩⟩
   rw [KEY.out]
   rcases sign_cases (x.sign-y.sign) with ⟨hs,hr0⟩|⟨hs,hr0⟩|⟨hs,hr0⟩<;>rw [hs]<;>omega
 ·have key:(x-y).sign=(x.sign-y.sign).sign:=by
   have:=h4.neg_iff
   have:=k4.neg_iff
   simp at *
   rcases sign_cases x with ⟨hs,hr0⟩|⟨hs,hr0⟩|⟨hs,hr0⟩<;>rcases sign_cases y with ⟨ht,ht0⟩|⟨ht,ht0⟩|⟨ht,ht0⟩<;>rw [hs,ht]<;>first
    | (exfalso; omega)
    | exact Int.sign_eq_one_of_pos (by omega)
    | exact Int.sign_eq_neg_one_of_neg (by omega)
  have KEY:=Lib.hid key
  have hsx : -1≤x.sign∧x.sign≤1:=by rcases sign_cases x with ⟨hs,_⟩|⟨hs,_⟩|⟨hs,_⟩<;>rw [hs]<;>decide
  have hsy : -1≤y.sign∧y.sign≤1:=by rcases sign_cases y with ⟨hs,_⟩|⟨hs,_⟩|⟨hs,_⟩<;>rw [hs]<;>decide
  obtain ⟨sx1,sx2⟩:=hsx
  obtain ⟨sy1,sy2⟩:=hsy
  clear key
  go_wp2_with fail
  go_quiet (fail)
  go_wp2_with fail
  refine (sign_calls b o x _ (hx1.below (pw_below_drewN (Below.refl _ _) _))).mono ?_
  rintro e w2 ⟨rfl,rfl⟩
  go_wp2_with fail
  refine (sign_calls b' o' y _ (hy1.below (pw_below_drewN (Below.refl _ _) _))).mono ?_
  rintro e w2 ⟨rfl,rfl⟩
  go_wp2_with fail
  all_goals
   go_ret
   refine ⟨ret_int ?_,HB1.out.trans ⟨rfl,rfl,rfl,Nat.le_refl _,fun _ _=>rfl⟩⟩
   rw [KEY.out]
   rcases sign_cases (x.sign-y.sign) with ⟨hs,hr0⟩|⟨hs,hr0⟩|⟨hs,hr0⟩<;>rw [hs]<;>omega
 ·have key:(x-y).sign=(-r).sign:=by rw [Int.sign_neg,hr,EX.out,EY.out,←Int.sign_neg]; simp only [if_true]; congr 1; omega
  have KEY:=Lib.hid key
  clear key
  go_wp2_with fail
  go_quiet (fail)
  go_wp2_with fail
  all_goals
   go_ret
   refine ⟨ret_int ?_,HB1.out.trans ⟨rfl,rfl,rfl,Nat.le_refl _,fun _ _=>rfl⟩⟩
   rw [KEY.out]
   rcases sign_cases (-r) with ⟨hs,hr0⟩|⟨hs,hr0⟩|⟨hs,hr0⟩<;>rw [hs]<;>omega
def OwnW (w:World) (base:Nat) (v:Value) (zs:List Int):Prop:=w.ownsRow base 171 1 v zs.length (nums .u32 zs)
theorem OwnW.wat {w:World} {base:Nat} {v:Value} {zs:List Int} (h:OwnW w base v zs):∃ A c,v = .slice A zs.length c∧WAt w A c zs:=WAt.of_own h
theorem val_set_take {zs:List Int} {i:Nat} (h:i<zs.length) (v:Int):val ((zs.set i v).take (i+1))=val (zs.take i)+4294967296^i*v:=by
  rw [List.take_succ_eq_append_getElem (by simpa using h),val_append,List.take_set_of_le (Nat.le_refl i),List.length_take,Nat.min_eq_left (Nat.le_of_lt h)]
  simp [val]
theorem wd_set {zs:List Int} (h:Wd zs) (i:Nat) {v:Int} (h0:0≤v) (h1:v<4294967296):Wd (zs.set i v):=fun u hu=>by
  rcases List.mem_or_eq_of_mem_set hu with hu|rfl
  · exact h u hu
  · exact ⟨h0,h1⟩
theorem wd_zeros (n:Nat):Wd (List.replicate n 0):=fun u hu=>by
  rw [List.eq_of_mem_replicate hu]; decide
theorem getD_rd (xs:List Int) (i:Nat):xs.getD i 0=rd xs (i:Int):=by unfold Go.Proofs.YtglaeambknhjlaaGreatDoorW.PrintWords.rd; rw [Int.toNat_natCast]
theorem sum_step {P zt xt yt x y c s:Int} (h:zt+P*c=xt+yt) (hs:s=x+y+c):zt+P*(s%4294967296)+P*4294967296*(s/4294967296)=xt+P*x+(yt+P*y):=by
  have e:s%4294967296+4294967296*(s/4294967296)=s:=Int.emod_add_mul_ediv s 4294967296
  have:P*(s%4294967296)+P*4294967296*(s/4294967296)=P*s:=by rw [←e]; generalize s%4294967296=q; generalize s/4294967296=r; rw [Int.mul_assoc,←Int.mul_add,Int.add_mul_emod_self_left,Int.add_mul_ediv_left _ _ (by decide)]; grind
  rw [Int.add_assoc,this,hs]
  grind
theorem sum_calls (A : Option Addr) (cx : Nat) (xs : List Int) (A' : Option Addr) (cy : Nat) (ys : List Int) (w : World) (hx : WAt w A cx xs) (hy : WAt w A' cy ys) (dx : Wd xs) (dy : Wd ys) (lx : xs.length ≤ 35184372088832) (ly : ys.length ≤ 35184372088832) :
    Calls Tryz.prog 233 #[.slice A xs.length cx,.slice A' ys.length cy] w fun e w'=>∃ (B:Option Addr) (c:Nat) (zs:List Int),e = .returned (.slice B zs.length c)∧WAt w' B c zs∧Wd zs∧val zs=val xs+val ys∧zs.length≤xs.length+ys.length+1∧Below w.heap.size w w':=by
  have hl1:=hx.le
  have hl2:=hy.le
  by_cases hlt:xs.length<ys.length
  · clear hl1 hl2
    have hmk:=print_make (P:=Tryz.prog) 103 171 .u32 4 Tryz.underlying103 infoU32 (by decide) (ys.length+1) (by omega)
    have hown:=own_made w w.heap.size 171 .u32 (ys.length+1) (Nat.le_refl _) (by omega)
    have HOWN:=Lib.hid hown
    clear hown
    have ec:(((ys.length+1:Nat)):Int)=(ys.length:Int)+1:=by omega
    rw [ec] at hmk
    clear ec
    go_enter Tryz.func233,Tryz.ntmps233
    go_wp2
    clear hmk
    go_loopw [6,22] (fun vc vi wr=>∃ (i:Nat) (c:Int) (zs:List Int),i≤ys.length∧0≤c∧c≤1∧vc = .int .u64 c∧vi = .int .i64 i∧zs.length=ys.length+1∧Wd zs∧OwnW wr w.heap.size (.slice (some ⟨w.heap.size,0,none⟩) (ys.length+1) (ys.length+1)) zs∧Below w.heap.size w wr ∧
        val (zs.take i)+4294967296^i*c=val (ys.take i)+val (xs.take i)) (fun _ vi _=>ys.length-(intOf vi).toNat)
    case atStart=>exact ⟨0,0,List.replicate (ys.length+1) 0,by omega,by omega,by omega,rfl,rfl,by simp,wd_zeros _,by unfold OwnW; rw [List.length_replicate]; exact HOWN.out,below_alloc (Below.refl _ _) _,by simp [val]⟩
    case round =>
      obtain ⟨i,c,zs,hi,hc0,hc1,rfl,rfl,hzl,hzd,hO,hB,hv⟩:=hrel
      have HV:=Lib.hid hv
      have HO:=Lib.hid hO
      have HZL:=Lib.hid hzl
      clear hv hO hzl
      have HOA:=Lib.hid (show wr.ownsRow w.heap.size 171 1 (.slice (some ⟨w.heap.size,0,none⟩) (ys.length+1) (ys.length+1)) (ys.length+1) (nums .u32 zs) by have:=HO.out; unfold OwnW at this; rw [HZL.out] at this; exact this)
      by_cases hil:i<ys.length
      · obtain ⟨ad,rfl⟩:=hy.ptr (by omega)
        have hcx:=(hy.below hB).cell (j:=i) hil
        have hbx:=dy.rd (i:Int)
        rw [getD_rd] at hcx
        obtain ⟨hs1,hs2⟩:=own_at HOA.out (i:Int) (by omega) (by omega)
        have hst:=own_store HOA.out (i:Int)
        rw [Int.toNat_natCast] at hs1 hs2 hst
        have HST:=Lib.hid hst
        clear hst
        have hvx:=val_take_succ (xs:=ys) hil
        have HVX:=Lib.hid hvx
        clear hvx
        generalize rd ys (i:Int)=x at hcx hbx HVX
        obtain ⟨hbx0,hbx1⟩:=hbx
        have fin:∀ s:Int,0≤s→s<2*4294967296→∀ y:Int,s=x+y+c→val (xs.take (i+1))=val (xs.take i)+4294967296^i*y →
            Wd (zs.set i (s%4294967296))∧OwnW (wr.setCell ⟨w.heap.size,i,none⟩ (.int .u32 (s%4294967296))) w.heap.size (.slice (some ⟨w.heap.size,0,none⟩) (ys.length+1) (ys.length+1)) (zs.set i (s%4294967296))∧Below w.heap.size w (wr.setCell ⟨w.heap.size,i,none⟩ (.int .u32 (s%4294967296))) ∧
            val ((zs.set i (s%4294967296)).take (i+1))+4294967296^(i+1)*(s/4294967296)=val (ys.take (i+1))+val (xs.take (i+1)):=fun s hs0 hs1 y hy hyt=>by
          refine ⟨wd_set hzd _ (by omega) (by omega),?_,hB.setCell (Nat.le_refl _) _,?_⟩
          · unfold OwnW
            rw [List.length_set,HZL.out]
            exact (HST.out _).1
          · rw [val_set_take (by rw [HZL.out]; omega),HVX.out,hyt,Int.pow_succ]
            exact sum_step HV.out hy
        have FIN:=Lib.hid fin
        clear fin
        by_cases hiy:i<xs.length
        · obtain ⟨ad',rfl⟩:=hx.ptr (by omega)
          have hcy:=(hx.below hB).cell (j:=i) hiy
          have hby:=dx.rd (i:Int)
          rw [getD_rd] at hcy
          have hvy:=val_take_succ (xs:=xs) hiy
          have HVY:=Lib.hid hvy
          clear hvy
          generalize rd xs (i:Int)=y at hcy hby HVY
          obtain ⟨hby0,hby1⟩:=hby
          go_wp2
          go_roundw
          case rel =>
            obtain ⟨f1,f2,f3,f4⟩:=FIN.out (c+x+y) (by omega) (by omega) y (by omega) HVY.out
            exact ⟨i+1,(c+x+y)/4294967296,_,by omega,by omega,by omega,rfl,by go_num,by rw [List.length_set,HZL.out],f1,f2,f3,f4⟩
          case measure=>simp [intOf]; omega
        · have hvy:val (xs.take (i+1))=val (xs.take i)+4294967296^i*0:=by rw [List.take_of_length_le (by omega),List.take_of_length_le (by omega)]; omega
          have HVY:=Lib.hid hvy
          clear hvy
          go_wp2
          go_roundw
          case rel =>
            obtain ⟨f1,f2,f3,f4⟩:=FIN.out (c+x) (by omega) (by omega) 0 (by omega) HVY.out
            exact ⟨i+1,(c+x)/4294967296,_,by omega,by omega,by omega,rfl,by go_num,by rw [List.length_set,HZL.out],f1,f2,f3,f4⟩
          case measure=>simp [intOf]; omega
      · obtain rfl:i=ys.length:=by omega
        obtain ⟨hs1,hs2⟩:=own_at HOA.out (ys.length:Int) (by omega) (by omega)
        have hst:=own_store HOA.out (ys.length:Int) c
        rw [Int.toNat_natCast] at hs1 hs2 hst
        have HST:=Lib.hid hst
        clear hst
        go_wp2
        go_ret
        have hw2:OwnW (wr.setCell ⟨w.heap.size,ys.length,none⟩ (.int .u32 c)) w.heap.size (.slice (some ⟨w.heap.size,0,none⟩) (ys.length+1) (ys.length+1)) (zs.set ys.length c):=by
          unfold OwnW
          rw [List.length_set,HZL.out]
          exact HST.out.1
        obtain ⟨A2,c2,he,hw3⟩:=hw2.wat
        injection he with e1 e2 e3
        subst e1; subst e3
        have hlen:(zs.set ys.length c).length=ys.length+1:=by rw [List.length_set,HZL.out]
        refine ⟨_,_,zs.set ys.length c,by rw [hlen]; rfl,hw3,wd_set hzd _ (by omega) (by omega),?_,by rw [hlen]; omega,hB.setCell (Nat.le_refl _) _⟩
        have hv1:=val_set_take (zs:=zs) (i:=ys.length) (by rw [HZL.out]; omega) c
        rw [List.take_of_length_le (by omega)] at hv1
        have hv2:=HV.out
        rw [List.take_length,List.take_of_length_le (by omega:xs.length≤_)] at hv2
        rw [hv1,hv2]; omega
  · clear hl1 hl2
    have hmk:=print_make (P:=Tryz.prog) 103 171 .u32 4 Tryz.underlying103 infoU32 (by decide) (xs.length+1) (by omega)
    have hown:=own_made w w.heap.size 171 .u32 (xs.length+1) (Nat.le_refl _) (by omega)
    have HOWN:=Lib.hid hown
    clear hown
    have ec:(((xs.length+1:Nat)):Int)=(xs.length:Int)+1:=by omega
    rw [ec] at hmk
    clear ec
    go_enter Tryz.func233,Tryz.ntmps233
    go_wp2
    clear hmk
    go_loopw [6,22] (fun vc vi wr=>∃ (i:Nat) (c:Int) (zs:List Int),i≤xs.length∧0≤c∧c≤1∧vc = .int .u64 c∧vi = .int .i64 i∧zs.length=xs.length+1∧Wd zs∧OwnW wr w.heap.size (.slice (some ⟨w.heap.size,0,none⟩) (xs.length+1) (xs.length+1)) zs∧Below w.heap.size w wr ∧
        val (zs.take i)+4294967296^i*c=val (xs.take i)+val (ys.take i)) (fun _ vi _=>xs.length-(intOf vi).toNat)
    case atStart=>exact ⟨0,0,List.replicate (xs.length+1) 0,by omega,by omega,by omega,rfl,rfl,by simp,wd_zeros _,by unfold OwnW; rw [List.length_replicate]; exact HOWN.out,below_alloc (Below.refl _ _) _,by simp [val]⟩
    case round =>
      obtain ⟨i,c,zs,hi,hc0,hc1,rfl,rfl,hzl,hzd,hO,hB,hv⟩:=hrel
      have HV:=Lib.hid hv
      have HO:=Lib.hid hO
      have HZL:=Lib.hid hzl
      clear hv hO hzl
      have HOA:=Lib.hid (show wr.ownsRow w.heap.size 171 1 (.slice (some ⟨w.heap.size,0,none⟩) (xs.length+1) (xs.length+1)) (xs.length+1) (nums .u32 zs) by have:=HO.out; unfold OwnW at this; rw [HZL.out] at this; exact this)
      by_cases hil:i<xs.length
      · obtain ⟨ad,rfl⟩:=hx.ptr (by omega)
        have hcx:=(hx.below hB).cell (j:=i) hil
        have hbx:=dx.rd (i:Int)
        rw [getD_rd] at hcx
        obtain ⟨hs1,hs2⟩:=own_at HOA.out (i:Int) (by omega) (by omega)
        have hst:=own_store HOA.out (i:Int)
        rw [Int.toNat_natCast] at hs1 hs2 hst
        have HST:=Lib.hid hst
        clear hst
        have hvx:=val_take_succ (xs:=xs) hil
        have HVX:=Lib.hid hvx
        clear hvx
        generalize rd xs (i:Int)=x at hcx hbx HVX
        obtain ⟨hbx0,hbx1⟩:=hbx
        have fin:∀ s:Int,0≤s→s<2*4294967296→∀ y:Int,s=x+y+c→val (ys.take (i+1))=val (ys.take i)+4294967296^i*y →
            Wd (zs.set i (s%4294967296))∧OwnW (wr.setCell ⟨w.heap.size,i,none⟩ (.int .u32 (s%4294967296))) w.heap.size (.slice (some ⟨w.heap.size,0,none⟩) (xs.length+1) (xs.length+1)) (zs.set i (s%4294967296))∧Below w.heap.size w (wr.setCell ⟨w.heap.size,i,none⟩ (.int .u32 (s%4294967296))) ∧
            val ((zs.set i (s%4294967296)).take (i+1))+4294967296^(i+1)*(s/4294967296)=val (xs.take (i+1))+val (ys.take (i+1)):=fun s hs0 hs1 y hy hyt=>by
          refine ⟨wd_set hzd _ (by omega) (by omega),?_,hB.setCell (Nat.le_refl _) _,?_⟩
          · unfold OwnW
            rw [List.length_set,HZL.out]
            exact (HST.out _).1
          · rw [val_set_take (by rw [HZL.out]; omega),HVX.out,hyt,Int.pow_succ]
            exact sum_step HV.out hy
        have FIN:=Lib.hid fin
        clear fin
        by_cases hiy:i<ys.length
        · obtain ⟨ad',rfl⟩:=hy.ptr (by omega)
          have hcy:=(hy.below hB).cell (j:=i) hiy
          have hby:=dy.rd (i:Int)
          rw [getD_rd] at hcy
          have hvy:=val_take_succ (xs:=ys) hiy
          have HVY:=Lib.hid hvy
          clear hvy
          generalize rd ys (i:Int)=y at hcy hby HVY
          obtain ⟨hby0,hby1⟩:=hby
          go_wp2
          go_roundw
          case rel =>
            obtain ⟨f1,f2,f3,f4⟩:=FIN.out (c+x+y) (by omega) (by omega) y (by omega) HVY.out
            exact ⟨i+1,(c+x+y)/4294967296,_,by omega,by omega,by omega,rfl,by go_num,by rw [List.length_set,HZL.out],f1,f2,f3,f4⟩
          case measure=>simp [intOf]; omega
        · have hvy:val (ys.take (i+1))=val (ys.take i)+4294967296^i*0:=by rw [List.take_of_length_le (by omega),List.take_of_length_le (by omega)]; omega
          have HVY:=Lib.hid hvy
          clear hvy
          go_wp2
          go_roundw
          case rel =>
            obtain ⟨f1,f2,f3,f4⟩:=FIN.out (c+x) (by omega) (by omega) 0 (by omega) HVY.out
            exact ⟨i+1,(c+x)/4294967296,_,by omega,by omega,by omega,rfl,by go_num,by rw [List.length_set,HZL.out],f1,f2,f3,f4⟩
          case measure=>simp [intOf]; omega
      · obtain rfl:i=xs.length:=by omega
        obtain ⟨hs1,hs2⟩:=own_at HOA.out (xs.length:Int) (by omega) (by omega)
        have hst:=own_store HOA.out (xs.length:Int) c
        rw [Int.toNat_natCast] at hs1 hs2 hst
        have HST:=Lib.hid hst
        clear hst
        go_wp2
        go_ret
        have hw2:OwnW (wr.setCell ⟨w.heap.size,xs.length,none⟩ (.int .u32 c)) w.heap.size (.slice (some ⟨w.heap.size,0,none⟩) (xs.length+1) (xs.length+1)) (zs.set xs.length c):=by
          unfold OwnW
          rw [List.length_set,HZL.out]
          exact HST.out.1
        obtain ⟨A2,c2,he,hw3⟩:=hw2.wat
        injection he with e1 e2 e3
        subst e1; subst e3
        have hlen:(zs.set xs.length c).length=xs.length+1:=by rw [List.length_set,HZL.out]
        refine ⟨_,_,zs.set xs.length c,by rw [hlen]; rfl,hw3,wd_set hzd _ (by omega) (by omega),?_,by rw [hlen]; omega,hB.setCell (Nat.le_refl _) _⟩
        have hv1:=val_set_take (zs:=zs) (i:=xs.length) (by rw [HZL.out]; omega) c
        rw [List.take_of_length_le (by omega)] at hv1
        have hv2:=HV.out
        rw [List.take_length,List.take_of_length_le (by omega:ys.length≤_)] at hv2
        rw [hv1,hv2]
def bw (x y b:Int):Int:=if x<y+b then 1 else 0
theorem bw_range (x y b:Int):0≤bw x y b∧bw x y b≤1:=by unfold bw; split<;>decide
theorem bw_eq (x y b:Int) (hx:0≤x∧x<4294967296) (hy:0≤y∧y<4294967296) (hb:0≤b∧b≤1):(x-y-b)%4294967296=x-y-b+4294967296*bw x y b:=by
  unfold bw; split<;>omega
theorem top_bit (n:Nat) (h:n<4294967296):n >>> 31=0∨n >>> 31=1:=by
  rw [Nat.shiftRight_eq_div_pow]; omega
theorem sub32_nat (X Y b D:Nat) (hx:X<4294967296) (hy:Y<4294967296) (hb:b≤1) (hd:D=(X+8589934592-Y-b)%4294967296) :
    (((4294967295 ^^^ X) &&& Y) ||| ((4294967295 ^^^ (X ^^^ Y)) &&& D))/2147483648=if X<Y+b then 1 else 0:=by
  have e:∀ n:Nat,n/2147483648=n >>> 31:=fun n=>by rw [Nat.shiftRight_eq_div_pow]
  have hD:D<4294967296:=by omega
  rw [e,Nat.shiftRight_or_distrib,Nat.shiftRight_and_distrib,Nat.shiftRight_and_distrib,Nat.shiftRight_xor_distrib,Nat.shiftRight_xor_distrib,Nat.shiftRight_xor_distrib]
  have h1:(4294967295:Nat) >>> 31=1:=by decide
  rw [h1]
  have ex:X >>> 31=X/2147483648:=(e X).symm
  have ey:Y >>> 31=Y/2147483648:=(e Y).symm
  have ed:D >>> 31=D/2147483648:=(e D).symm
  rcases top_bit X hx with kx|kx<;>rcases top_bit Y hy with ky|ky<;>rcases top_bit D hD with kd|kd<;>rw [kx,ky,kd]<;>(first|rw [if_pos (by omega)]; done|rw [if_neg (by omega)]; done|(rw [if_pos (by omega)]; decide)|(rw [if_neg (by omega)]; decide)|(exfalso; omega))
theorem sub32_int (x y b:Int) (hx:0≤x∧x<4294967296) (hy:0≤y∧y<4294967296) (hb:0≤b∧b≤1) :
    bits BinOp.or IntKind.u32 (bits BinOp.and IntKind.u32 (bits BinOp.xor IntKind.u32 4294967295 x) y) (bits BinOp.and IntKind.u32 (bits BinOp.xor IntKind.u32 4294967295 (bits BinOp.xor IntKind.u32 x y)) ((x-y-b)%4294967296))/2147483648=bw x y b:=by
  obtain ⟨X,rfl⟩:=Int.eq_ofNat_of_zero_le hx.1
  obtain ⟨Y,rfl⟩:=Int.eq_ofNat_of_zero_le hy.1
  obtain ⟨c,rfl⟩:=Int.eq_ofNat_of_zero_le hb.1
  obtain ⟨D,hD⟩:=Int.eq_ofNat_of_zero_le (show 0≤((X:Int)-Y-c)%4294967296 by omega)
  have hx1:X<4294967296:=by omega
  have hy1:Y<4294967296:=by omega
  have hd1:D<4294967296:=by omega
  rw [hD]
  have a1:(4294967295:Int)=((4294967295:Nat):Int):=rfl
  rw [a1,u32_xor_nat _ _ (by decide) hx1,u32_xor_nat _ _ hx1 hy1]
  have b1:4294967295 ^^^ X<4294967296:=Nat.xor_lt_two_pow (n:=32) (by decide) hx1
  have b2:X ^^^ Y<4294967296:=Nat.xor_lt_two_pow (n:=32) hx1 hy1
  rw [u32_and_nat _ _ b1 hy1,u32_xor_nat _ _ (by decide) b2]
  have b3:4294967295 ^^^ (X ^^^ Y)<4294967296:=Nat.xor_lt_two_pow (n:=32) (by decide) b2
  rw [u32_and_nat _ _ b3 hd1]
  have b4:(4294967295 ^^^ X) &&& Y<4294967296:=Nat.and_lt_two_pow (n:=32) _ hy1
  have b5:(4294967295 ^^^ (X ^^^ Y)) &&& D<4294967296:=Nat.and_lt_two_pow (n:=32) _ hd1
  rw [u32_or_nat _ _ b4 b5]
  have:=sub32_nat X Y c D hx1 hy1 (by omega) (by omega)
  have h2:((((4294967295 ^^^ X) &&& Y ||| (4294967295 ^^^ (X ^^^ Y)) &&& D)/2147483648:Nat):Int)=((if X<Y+c then 1 else 0:Nat):Int):=by rw [this]
  unfold bw
  rw [Int.natCast_ediv] at h2
  rw [show ((2147483648:Nat):Int)=2147483648 from rfl] at h2
  rw [h2]
  by_cases h:X<Y+c
  · rw [if_pos h,if_pos (by omega)]; rfl
  · rw [if_neg h,if_neg (by omega)]; rfl
theorem sub32_calls (x y b:Int) (w:World) (hx:0≤x∧x<4294967296) (hy:0≤y∧y<4294967296) (hb:0≤b∧b≤1) :
    Calls Tryz.prog 247 #[.int .u32 x,.int .u32 y,.int .u32 b] w fun e w'=>e = .returned (.tuple #[.int .u32 ((x-y-b)%4294967296),.int .u32 (bw x y b)])∧w=w':=by
  have hs:=sub32_int x y b hx hy hb
  have HS:=Lib.hid hs
  clear hs
  obtain ⟨hx0,hx1⟩:=hx
  obtain ⟨hy0,hy1⟩:=hy
  obtain ⟨hb0,hb1⟩:=hb
  go_enter Tryz.func247,Tryz.ntmps247
  go_wp2
  all_goals first
    | (rename_i hc; exact absurd hc (by decide))
    | (go_ret2
       exact ⟨by have:=HS.out; rw [←this]; rfl,rfl⟩)
theorem less_step {P zt xt yt x y b:Int} (h:zt=xt-yt+P*b) (hx:0≤x∧x<4294967296) (hy:0≤y∧y<4294967296) (hb:0≤b∧b≤1):zt+P*((x-y-b)%4294967296)=xt+P*x-(yt+P*y)+P*4294967296*bw x y b:=by
  rw [bw_eq x y b hx hy hb,h]
  grind
theorem less_calls (A : Option Addr) (cx : Nat) (xs : List Int) (A' : Option Addr) (cy : Nat) (ys : List Int) (w : World) (hx : WAt w A cx xs) (hy : WAt w A' cy ys) (dx : Wd xs) (dy : Wd ys) (lx : xs.length ≤ 35184372088832) (hle : val ys ≤ val xs) (hly : ys.length ≤ xs.length) :
    Calls Tryz.prog 234 #[.slice A xs.length cx,.slice A' ys.length cy] w fun e w'=>∃ (B:Option Addr) (c:Nat) (zs:List Int),e = .returned (.slice B zs.length c)∧WAt w' B c zs∧Wd zs∧val zs=val xs-val ys∧zs.length=xs.length∧Below w.heap.size w w':=by
    have hmk:=print_make (P:=Tryz.prog) 103 171 .u32 4 Tryz.underlying103 infoU32 (by decide) xs.length (by omega)
    have hown:=own_made w w.heap.size 171 .u32 xs.length (Nat.le_refl _) (by omega)
    have HOWN:=Lib.hid hown
    clear hown
    go_enter Tryz.func234,Tryz.ntmps234
    go_wp2
    clear hmk
    go_loopw [6,15] (fun vc vi wr=>∃ (i:Nat) (c:Int) (zs:List Int),i≤xs.length∧0≤c∧c≤1∧vc = .int .u32 c∧vi = .int .i64 i∧zs.length=xs.length∧Wd zs∧OwnW wr w.heap.size (.slice (some ⟨w.heap.size,0,none⟩) xs.length xs.length) zs∧Below w.heap.size w wr ∧
        val (zs.take i)=val (xs.take i)-val (ys.take i)+4294967296^i*c) (fun _ vi _=>xs.length-(intOf vi).toNat)
    case atStart=>exact ⟨0,0,List.replicate xs.length 0,by omega,by omega,by omega,rfl,rfl,by simp,wd_zeros _,by unfold OwnW; rw [List.length_replicate]; exact HOWN.out,below_alloc (Below.refl _ _) _,by simp [val]⟩
    case round =>
      obtain ⟨i,c,zs,hi,hc0,hc1,rfl,rfl,hzl,hzd,hO,hB,hv⟩:=hrel
      have HV:=Lib.hid hv
      have HO:=Lib.hid hO
      have HZL:=Lib.hid hzl
      clear hv hO hzl
      have HOA:=Lib.hid (show wr.ownsRow w.heap.size 171 1 (.slice (some ⟨w.heap.size,0,none⟩) xs.length xs.length) xs.length (nums .u32 zs) by have:=HO.out; unfold OwnW at this; rw [HZL.out] at this; exact this)
      by_cases hil:i<xs.length
      · obtain ⟨ad,rfl⟩:=hx.ptr (by omega)
        have hcx:=(hx.below hB).cell (j:=i) hil
        have hbx:=dx.rd (i:Int)
        rw [getD_rd] at hcx
        obtain ⟨hs1,hs2⟩:=own_at HOA.out (i:Int) (by omega) (by omega)
        have hst:=own_store HOA.out (i:Int)
        rw [Int.toNat_natCast] at hs1 hs2 hst
        have HST:=Lib.hid hst
        clear hst
        have hvx:=val_take_succ (xs:=xs) hil
        have HVX:=Lib.hid hvx
        clear hvx
        generalize rd xs (i:Int)=x at hcx hbx HVX
        have hbx':=hbx
        obtain ⟨hbx0,hbx1⟩:=hbx
        have fin:∀ y:Int,0≤y∧y<4294967296→val (ys.take (i+1))=val (ys.take i)+4294967296^i*y →
            Wd (zs.set i ((x-y-c)%4294967296))∧OwnW (wr.setCell ⟨w.heap.size,i,none⟩ (.int .u32 ((x-y-c)%4294967296))) w.heap.size (.slice (some ⟨w.heap.size,0,none⟩) xs.length xs.length) (zs.set i ((x-y-c)%4294967296))∧Below w.heap.size w (wr.setCell ⟨w.heap.size,i,none⟩ (.int .u32 ((x-y-c)%4294967296))) ∧
            val ((zs.set i ((x-y-c)%4294967296)).take (i+1))=val (xs.take (i+1))-val (ys.take (i+1))+4294967296^(i+1)*bw x y c:=fun y hy0 hyt=>by
          refine ⟨wd_set hzd _ (by omega) (by omega),?_,hB.setCell (Nat.le_refl _) _,?_⟩
          · unfold OwnW
            rw [List.length_set,HZL.out]
            exact (HST.out _).1
          · rw [val_set_take (by rw [HZL.out]; omega),HVX.out,hyt,Int.pow_succ]
            exact less_step HV.out hbx' hy0 ⟨hc0,hc1⟩
        have FIN:=Lib.hid fin
        clear fin
        by_cases hiy:i<ys.length
        · obtain ⟨ad',rfl⟩:=hy.ptr (by omega)
          have hcy:=(hy.below hB).cell (j:=i) hiy
          have hby:=dy.rd (i:Int)
          rw [getD_rd] at hcy
          have hvy:=val_take_succ (xs:=ys) hiy
          have HVY:=Lib.hid hvy
          clear hvy
          generalize rd ys (i:Int)=y at hcy hby HVY
          go_wp2_with (go_at_call 247; refine (sub32_calls x y c _ hbx' hby ⟨hc0,hc1⟩).mono ?_; rintro e w2 ⟨rfl,rfl⟩)
          go_roundw
          case rel =>
            obtain ⟨f1,f2,f3,f4⟩:=FIN.out y hby HVY.out
            exact ⟨i+1,bw x y c,_,by omega,(bw_range x y c).1,(bw_range x y c).2,rfl,by go_num,by rw [List.length_set,HZL.out],f1,f2,f3,f4⟩
          case measure=>simp [intOf]; omega
        · have hvy:val (ys.take (i+1))=val (ys.take i)+4294967296^i*0:=by rw [List.take_of_length_le (by omega),List.take_of_length_le (by omega)]; omega
          have HVY:=Lib.hid hvy
          clear hvy
          go_wp2_with (go_at_call 247; refine (sub32_calls x 0 c _ hbx' (by decide) ⟨hc0,hc1⟩).mono ?_; rintro e w2 ⟨rfl,rfl⟩)
          go_roundw
          case rel =>
            obtain ⟨f1,f2,f3,f4⟩:=FIN.out 0 (by decide) HVY.out
            rw [Int.sub_zero] at f1 f2 f3 f4
            exact ⟨i+1,bw x 0 c,_,by omega,(bw_range x 0 c).1,(bw_range x 0 c).2,rfl,by go_num,by rw [List.length_set,HZL.out],f1,f2,f3,f4⟩
          case measure=>simp [intOf]; omega
      · obtain rfl:i=xs.length:=by omega
        go_wp2
        go_ret
        obtain ⟨A2,c2,he,hw3⟩:=HO.out.wat
        injection he with e1 e2 e3
        subst e1; subst e3
        refine ⟨_,_,zs,by rw [HZL.out]; rfl,hw3,hzd,?_,HZL.out,hB⟩
        have hv2:=HV.out
        rw [List.take_length,List.take_of_length_le (by omega:ys.length≤_),List.take_of_length_le (by rw [HZL.out]; omega)] at hv2
        have h3:=val_lt hzd
        have h4:=val_nonneg hzd
        rw [HZL.out] at h3
        have h5:c=0:=by
          rcases (show c=0∨c=1 by omega) with h|h
          · exact h
          · subst h; omega
        subst h5
        omega
end Go.Proofs.YtglaeambknhjlaaGreatDoor.P
end
