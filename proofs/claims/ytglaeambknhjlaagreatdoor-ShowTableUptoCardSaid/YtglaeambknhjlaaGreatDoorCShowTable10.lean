/- Texts under the proof, joined by a program (prune.py): HDivMod, HDec, P34, HRev, HRatBase, SText, HString. -/
import Derived.Test.YtglaeambknhjlaaGreatDoorCShowTable09
import Derived.Test.YtglaeambknhjlaaGreatDoorCShowTable05
set_option linter.unusedVariables false
set_option linter.unusedSimpArgs false
set_option exponentiation.threshold 20001
set_option maxHeartbeats 8000000
set_option maxRecDepth 100000
section
namespace Go.Proofs.YtglaeambknhjlaaGreatDoor.P
open Go.RowKit Go.Proofs.YtglaeambknhjlaaGreatDoorW.PrintWords
theorem quot_eu {neg neg':Bool} {xs ys:List Int} {x y q r:Int} (hx:Norm neg xs x) (hy:Norm neg' ys y) (h:val xs=val ys*q+r) (h0:0≤r) (h1:r<val ys) :
  (neg=true∧r≠0→sg (!(neg == neg')) (q+1)=x/y∧val ys-r=x%y)∧(¬ (neg=true∧r≠0)→sg (!(neg == neg')) q=x/y∧r=x%y):=by
 have hY:0<val ys:=by omega
 rw [hx.eq,hy.eq]
 unfold sg
 generalize val xs=X at *
 generalize val ys=Y at *
 have eX:X/Y=q∧X%Y=r:=(Int.ediv_emod_unique hY).2 ⟨by omega,h0,h1⟩
 have eN:r≠0→(-X)/Y = -(q+1)∧(-X)%Y=Y-r:=fun hr=>(Int.ediv_emod_unique hY).2 ⟨by rw [Int.mul_neg,Int.mul_add]; omega,by omega,by omega⟩
 have eZ:r=0→(-X)/Y = -q∧(-X)%Y=0:=fun hr=>(Int.ediv_emod_unique hY).2 ⟨by rw [Int.mul_neg]; omega,by omega,by omega⟩
 constructor
 ·rintro ⟨rfl,hr⟩
  obtain ⟨e1,e2⟩:=eN hr
  cases neg'<;>simp [Int.ediv_neg,Int.emod_neg,e1,e2]
 ·intro hn
  cases neg
  ·cases neg'<;>simp [Int.ediv_neg,Int.emod_neg,eX.1,eX.2]
  ·have hr:r=0:=by
    apply Classical.byContradiction
    intro h; exact hn ⟨rfl,h⟩
   obtain ⟨e1,e2⟩:=eZ hr
   cases neg'<;>simp [Int.ediv_neg,Int.emod_neg,e1,e2,hr]
theorem quo_len {w w':World} {xs ys qs rs:List Int} {A1 A2:Option Addr} {c1 c2:Nat} (dx:Wd xs) (q:Quot w w' (val xs) (val ys) A1 c1 qs A2 c2 rs):qs.length≤xs.length:=by
 refine len_le_of_val dx q.dq q.tq ?_
 have h0:=val_nonneg q.dr
 have h1:=val_nonneg q.dq
 have h2:=q.lt
 have h3:=q.eq
 have h4:1*val qs≤val ys*val qs:=Int.mul_le_mul_of_nonneg_right (by omega) h1
 omega
theorem divMod_calls (b o b1 o1 b2 o2 b3 o3:Nat) (x y:Int) (w:World) (hz:Slot w b o) (hm:Slot w b3 o3) (hzm:b≠b3) (hx:IntAt w b1 o1 x) (hy:IntAt w b2 o2 y) (hy0:y≠0) {n:Nat} (hs:Bd n x) (ht:Bd n y) (hn:n≤big) :
  Calls Tryz.prog 201 #[.pointer (some ⟨b,o,none⟩),.pointer (some ⟨b1,o1,none⟩),.pointer (some ⟨b2,o2,none⟩),.pointer (some ⟨b3,o3,none⟩)] w fun e w'=>e = .returned (.tuple #[.pointer (some ⟨b,o,none⟩),.pointer (some ⟨b3,o3,none⟩)])∧IntAt w' b o (x/y)∧IntAt w' b3 o3 (x%y)∧∃ w1,Upd w w1 b o (o+2)∧Upd w1 w' b3 o3 (o3+2):=by
 obtain ⟨neg,A,c,xs,h1,h2,h3,h4⟩:=hx.out
 obtain ⟨neg',A',c',ys,k1,k2,k3,k4⟩:=hy.out
 have hl1:xs.length≤34359738368:=h4.small hs hn
 have hl2:ys.length≤34359738368:=k4.small ht hn
 have hlt1:=hx.lt
 have hlt2:=hy.lt
 have hyn:=k4.ne hy0
 clear hs hy0 ht
 have hD:=fun (W:World) (hb:Below w.heap.size w W)=>divide_calls A c xs A' c' ys W (h3.below hb) (k3.below hb) h4.wd k4.wd h4.top k4.top hyn hl1
 have HD:=Lib.hid hD
 clear hD
 go_enter Tryz.func201,Tryz.ntmps201
 go_wp2_with fail
 go_region_held3 (fun w'=>w'.cell? ⟨b1,o1+1,none⟩=some (.slice A xs.length c)∧w'.cell? ⟨b2,o2+1,none⟩=some (.slice A' ys.length c'))
  (first|go_keep|exact ⟨h2,k2⟩|exact ⟨bcell (bthen (below_drew' _) hq.below) h2,bcell (bthen (below_drew' _) hq.below) k2⟩)
  ((first
   | (go_simp; go_at_call 229; with_reducible refine (HD.out _ (by first|exact below_drew' _|exact below_drewN' _ _|exact Below.refl _ _)).mono ?_; rintro e w1 ⟨A1,c1,qs,A2,c2,rs,rfl,hq⟩)))
 have hB1:Below w.heap.size w w1:=bthen (below_drew' _) hq.below
 have HB1:=Lib.hid hB1
 have g1:=bcell hB1 h1
 have g2:=bcell hB1 k1
 have g4:=bcell hB1 k2
 have hk:=quot_eu h4 k4 hq.eq (val_nonneg hq.dr) hq.lt
 have HK:=Lib.hid hk
 have HQ:=Lib.hid hq
 clear hk hq hB1
 go_wp2_with fail
 refine (clone_calls A' c' ys _ (k3.below HB1.out) (by omega)).mono ?_
 rintro e w2 ⟨A3,c3,rfl,hw2,hb2⟩
 have HB2:=Lib.hid (bthen HB1.out hb2)
 have m1:=bcell hb2 g1
 have m2:=bcell hb2 g2
 have HQr:=Lib.hid (HQ.out.wr.below hb2)
 have HQq:=Lib.hid (HQ.out.wq.below hb2)
 clear g1 g2 g4 hb2 h1 h2 k1 k2
 by_cases hng:neg=true
 ·by_cases hr:0<rs.length
  ·have hrI:(0:Int)<(rs.length:Int):=by omega
   subst hng
   go_wp2_with fail
   go_quiet (fail)
   generalize hqd:w2.drewN _=w3
   have hb3:Below w2.heap.size w2 w3:=by subst hqd; exact below_drewN' _ _
   have m3:=bcell hb3 m1
   clear hqd
   go_wp2_with fail
   have hrv:val rs≠0:=by
    have h1:=val_pos HQ.out.dr HQ.out.tr (by intro e; rw [e] at hr; simp at hr)
    have h2:(0:Int)<4294967296^(rs.length-1):=Int.pow_pos (by decide)
    omega
   have hkk:=HK.out.1 ⟨by first|trivial|rfl,hrv⟩
   have HKK:=Lib.hid (show sg (!neg') (val qs+1)=x/y∧val ys-val rs=x%y by revert hkk; cases neg'<;>exact id)
   have hql:=quo_len h4.wd HQ.out
   have hrl:=len_le_of_val k4.wd HQ.out.dr HQ.out.tr (Int.le_of_lt HQ.out.lt)
   have hlt:=Int.le_of_lt HQ.out.lt
   have HLT:=Lib.hid hlt
   have HB3:=Lib.hid (bthen HB2.out hb3)
   have HRR:=Lib.hid (HQr.out.below hb3)
   have HQQ:=Lib.hid (HQq.out.below hb3)
   have HYY:=Lib.hid (hw2.below hb3)
   have hla:=below_alloc (Below.refl w3.heap.size w3) (.cells #[.int .u32 1] 171)
   have HLA:=Lib.hid hla
   have HLI:=Lib.hid (WAt.lit w3 [1] (by simp))
   clear hkk hrv hlt hla
   refine (sum_calls A1 c1 qs (some ⟨w3.heap.size,0,none⟩) 1 [1] _ (HQQ.out.below HLA.out) HLI.out HQ.out.dq (Wd.cons (by decide) (by decide) Wd.nil) (by omega) (by simp)).mono ?_
   rintro e w4 ⟨A4,c4,zs,rfl,hw4,hz4,hv4,hl4,hb4⟩
   have HV4:=Lib.hid hv4
   have HB4:=Lib.hid (bthen HLA.out hb4)
   clear hv4 hl4 hb4
   go_wp2_with fail
   refine (less_calls A3 c3 ys A2 c2 rs _ (HYY.out.below HB4.out) (HRR.out.below HB4.out) k4.wd HQ.out.dr (by omega) HLT.out hrl).mono ?_
   rintro e w5 ⟨A5,c5,ts,rfl,hw5,hz5,hv5,hl5,hb5⟩
   have HV5:=Lib.hid hv5
   have HB5:=Lib.hid hb5
   clear hv5 hl5 hb5
   have HBX:=Lib.hid (bthen (bthen HB3.out HB4.out) HB5.out)
   have HKX:=Lib.hid (show sg (!neg') (val zs)=x/y∧sg false (val ts)=x%y by rw [HV4.out,HV5.out]; exact HKK.out)
   go_wp2_with fail
   refine (put_calls b o (!neg') _ _ zs _ (hz.upd (Upd.of_below HBX.out 0 0 0)) (hw4.below HB5.out) hz4).mono ?_
   rintro e w6 ⟨rfl,hx6,hu6⟩
   rw [HKX.out.1] at hx6
   go_wp2_with fail
   refine (put_calls b3 o3 false _ _ ts _ ((hm.upd (Upd.of_below HBX.out 0 0 0)).upd hu6) (hw5.upd hu6) hz5).mono ?_
   rintro e w7 ⟨rfl,hx7,hu7⟩
   rw [HKX.out.2] at hx7
   go_wp2
   go_ret2
   exact ⟨rfl,hx6.upd hu7 (Or.inl hzm),hx7,w6,(Upd.of_below HBX.out _ _ _).trans hu6,hu7⟩
  ·have hrI:¬ (0:Int)<(rs.length:Int):=by omega
   subst hng
   go_wp2_with fail
   go_quiet (fail)
   generalize hqd:w2.drewN _=w3
   have hb3:Below w2.heap.size w2 w3:=by subst hqd; exact below_drewN' _ _
   have m3:=bcell hb3 m1
   clear hqd
   go_wp2_with fail
   have hkk:=HK.out.2 (by rintro ⟨_,h⟩; apply h; rw [List.length_eq_zero_iff.1 (show rs.length=0 by omega)]; rfl)
   have HKK:=Lib.hid (show sg (!neg') (val qs)=x/y∧val rs=x%y by revert hkk; cases neg'<;>exact id)
   clear hkk
   have HB3:=Lib.hid (bthen HB2.out hb3)
   have HRR:=Lib.hid (HQr.out.below hb3)
   have HQQ:=Lib.hid (HQq.out.below hb3)
   refine (put_calls b o (!neg') _ _ qs _ (hz.upd (Upd.of_below HB3.out 0 0 0)) HQQ.out HQ.out.dq).mono ?_
   rintro e w6 ⟨rfl,hx6,hu6⟩
   rw [HKK.out.1] at hx6
   go_wp2_with fail
   refine (put_calls b3 o3 false _ _ rs _ ((hm.upd (Upd.of_below HB3.out 0 0 0)).upd hu6) (HRR.out.upd hu6) HQ.out.dr).mono ?_
   rintro e w7 ⟨rfl,hx7,hu7⟩
   rw [show sg false (val rs)=x%y from HKK.out.2] at hx7
   go_wp2
   go_ret2
   exact ⟨rfl,hx6.upd hu7 (Or.inl hzm),hx7,w6,(Upd.of_below HB3.out _ _ _).trans hu6,hu7⟩
 ·have hng':neg=false:=by simpa using hng
  subst hng'
  go_wp2_with fail
  go_quiet (fail)
  generalize hqd:w2.drewN _=w3
  have hb3:Below w2.heap.size w2 w3:=by subst hqd; exact below_drewN' _ _
  have m3:=bcell hb3 m1
  clear hqd
  go_wp2_with fail
  have hkk:=HK.out.2 (by rintro ⟨h,_⟩; simp at h)
  have HKK:=Lib.hid (show sg neg' (val qs)=x/y∧val rs=x%y by revert hkk; cases neg'<;>exact id)
  clear hkk
  have HB3:=Lib.hid (bthen HB2.out hb3)
  have HRR:=Lib.hid (HQr.out.below hb3)
  have HQQ:=Lib.hid (HQq.out.below hb3)
  refine (put_calls b o (neg') _ _ qs _ (hz.upd (Upd.of_below HB3.out 0 0 0)) HQQ.out HQ.out.dq).mono ?_
  rintro e w6 ⟨rfl,hx6,hu6⟩
  rw [HKK.out.1] at hx6
  go_wp2_with fail
  refine (put_calls b3 o3 false _ _ rs _ ((hm.upd (Upd.of_below HB3.out 0 0 0)).upd hu6) (HRR.out.upd hu6) HQ.out.dr).mono ?_
  rintro e w7 ⟨rfl,hx7,hu7⟩
  rw [show sg false (val rs)=x%y from HKK.out.2] at hx7
  go_wp2
  go_ret2
  exact ⟨rfl,hx6.upd hu7 (Or.inl hzm),hx7,w6,(Upd.of_below HB3.out _ _ _).trans hu6,hu7⟩
def rdig (n:Nat):List UInt8:=if h:n=0 then [] else UInt8.ofNat (48+n%10) :: rdig (n/10)
termination_by n
decreasing_by omega
def decl (n:Nat):List UInt8:=if n=0 then [48] else (rdig n).reverse
theorem rdig_zero:rdig 0 = []:=by rw [rdig]; rfl
theorem rdig_pos {n:Nat} (h:0<n):rdig n=UInt8.ofNat (48+n%10) :: rdig (n/10):=by rw [rdig,dif_neg (by omega)]
theorem dig_toNat (d:Nat) (h:d<10):(UInt8.ofNat (48+d)).toNat=48+d:=by
  rw [UInt8.toNat_ofNat']; omega
def pad:Nat→Nat→List UInt8
  | 0,_ => []
  | k+1,r=>UInt8.ofNat (48+r%10) :: pad k (r/10)
theorem rdig_split (k r q:Nat) (hr:r<10^k) (hq:0<q):rdig (q*10^k+r)=pad k r++rdig q:=by
  induction k generalizing r with
  | zero => have : r = 0 := by omega
            subst this; simp [pad]
  | succ k ih =>
    have hp:0<10^k:=Nat.pow_pos (by decide)
    have h1:0<q*10^(k+1):=Nat.mul_pos hq (Nat.pow_pos (by decide))
    have e1:q*10^(k+1)+r=10*(q*10^k)+r:=by rw [Nat.pow_succ,←Nat.mul_assoc]; omega
    rw [rdig_pos (by omega),e1]
    have e2:(10*(q*10^k)+r)%10=r%10:=by omega
    have e3:(10*(q*10^k)+r)/10=q*10^k+r/10:=by omega
    rw [e2,e3,ih (r/10) (by rw [Nat.pow_succ] at hr; omega)]
    rfl
theorem dval_rdig (n:Nat):dval (rdig n).reverse=n:=by
  induction n using Nat.strongRecOn with
  | ind n ih =>
    rcases Nat.eq_zero_or_pos n with h|h
    · subst h; rw [rdig_zero]; rfl
    · rw [rdig_pos h,List.reverse_cons,dval_append,ih (n/10) (by omega)]
      simp only [List.length_singleton,dval,List.foldl_cons,List.foldl_nil,dig_toNat _ (Nat.mod_lt n (by decide))]
      omega
theorem dig_rdig (n:Nat):Dig (rdig n):=by
  induction n using Nat.strongRecOn with
  | ind n ih =>
    rcases Nat.eq_zero_or_pos n with h|h
    · subst h; rw [rdig_zero]; intro c hc; cases hc
    · rw [rdig_pos h]
      intro c hc
      rcases List.mem_cons.1 hc with rfl|hc
      · rw [dig_toNat _ (Nat.mod_lt n (by decide))]; omega
      · exact ih (n/10) (by omega) c hc
theorem dval_decl (n:Nat):dval (decl n)=n:=by
  unfold decl
  split
  · rename_i h; subst h; rfl
  · exact dval_rdig n
theorem dig_decl (n:Nat):Dig (decl n):=by
  unfold decl
  split
  · intro c hc; simp at hc; subst hc; decide
  · intro c hc; exact dig_rdig n c (List.mem_reverse.1 hc)
end Go.Proofs.YtglaeambknhjlaaGreatDoor.P
end
section
namespace Go.Proofs.YtglaeambknhjlaaGreatDoor.P
open Go.RowKit Go.Proofs.YtglaeambknhjlaaGreatDoorW.PrintWords Go.Proofs.YtglaeambknhjlaaGreatDoorW.PrintLast Go.Proofs.YtglaeambknhjlaaGreatDoorW.PrintMore
attribute [local go_sem] max2_int min2_int max_two min_two max_three min_three max_four min_four
def slices_Reverse_byte_byte.l0:Nat→List Int→Int→Int→Option (List Int)
 | 0,_,_,_=>none
 | k+1,x0,x2,x3=>if x2<x3 then (if 0≤x3 then (if x3<(x0.length:Int) then (if 0≤x2 then (if x2<(x0.length:Int) then (slices_Reverse_byte_byte.l0 k ((x0.set (x2:Int).toNat (rd x0 x3)).set (x3:Int).toNat (rd x0 x2)) (wrap64 (x2+1)) (wrap64 (x3-1))) else (none)) else (none)) else (none)) else (none)) else (some x0)
def slices_Reverse_byte_byte.f (k:Nat) (l0:List Int):Option (List Int):=slices_Reverse_byte_byte.l0 k l0 0 (wrap64 ((l0.length:Int)-1))
def slices_Reverse_byte_byte.T3:Bool×List (List Nat×List Nat):=(true,[([],[]),([],[]),([],[]),([],[]),([],[]),([],[]),([4,5],[4,5]),([6],[6]),([],[]),([],[]),([8,9],[8,9]),([10],[10]),([0,1,0,1,4,5,6,7,11],[0,1]),([12,7,0,1,4,5,6,7,11],[7,12]),([2,3,0,1,2,3,4,5,6,7,8,9,10,11,12,13],[2,3]),([14,11,13,0,1,2,3,4,5,6,7,8,9,10,11,12,13],[11,14])])
def slices_Reverse_byte_byte.B3:List Nat:=[0,0,0,0,0,0,48,112,0,0,768,1792,4083,8179,16383,32767]
theorem slices_Reverse_byte_byte.tab3:rtab .any (opsOf Tryz.f191 3)=slices_Reverse_byte_byte.T3:=by kernel_rfl
theorem slices_Reverse_byte_byte.bits3:waitsOk slices_Reverse_byte_byte.T3.2 slices_Reverse_byte_byte.B3=true:=by kernel_rfl
theorem slices_Reverse_byte_byte.calls (k : Nat) (P0_ : Nat → Prop) (u9000_ : Value) (l0 : List Int) (r : List Int) (w0 w : World) (hB : Below w0.heap.size w0 w) (ho0 : Kd.R (Kd.int .u8) 5 w w0.heap.size P0_ u9000_ l0) (h : slices_Reverse_byte_byte.f k l0 = some r) :
  Calls Tryz.prog 191 #[u9000_] w fun e w'=>e = .returned (.tuple #[])∧Kd.R (Kd.int .u8) 5 w' w0.heap.size (fun k_=>(P0_ k_∨w.heap.size≤k_)) u9000_ r∧Below w0.heap.size w0 w'∧Kept w w' (fun k_=>P0_ k_):=by
 have HO0:=Aside0.mk (show Kd.R (Kd.int .u8) 5 w w0.heap.size (fun k_=>(P0_ k_∨w.heap.size≤k_)) u9000_ l0 from Kd.R_mono ho0 (fun k_ hk=>(.inl hk)))
 have HK:=Aside0.mk (Kept.refl w (fun k_=>P0_ k_))
 have HW0:=Aside0.mk hB.size
 have HB:=Aside0.mk hB
 clear hB
 have H:(slices_Reverse_byte_byte.l0 k l0 0 (wrap64 ((l0.length:Int)-1)))=some r:=h
 clear h
 have H':=Aside0.mk H
 clear H
 obtain ⟨Ao2,co2,eo2⟩:=Kd.R_slice HO0.out
 subst eo2
 go_enter Tryz.func191,Tryz.ntmps191
 go_wp2
 go_loopg [2,3] k (fun kq v2 v3 w'=>∃ (x0_1:List Int) (x2_1:Int) (x3_1:Int),v2 = .int .i64 x2_1∧v3 = .int .i64 x3_1∧Aside0 (slices_Reverse_byte_byte.l0 kq x0_1 x2_1 x3_1=some r)∧Aside0 (kq≤k)∧Aside0 (Kd.R (Kd.int .u8) 5 w' w0.heap.size (fun k_=>(P0_ k_∨w.heap.size≤k_)) (.slice Ao2 l0.length co2) x0_1)∧Aside0 (Kept w w' (fun k_=>P0_ k_))∧Aside0 (Below w0.heap.size w0 w'))
 case atStart=>exact ⟨(l0),(0),(wrap64 ((l0.length:Int)-1)),(by first|rfl|(simp; done)|(simp [*]; done)),(by first|rfl|(simp; done)|(simp [*]; done)),H',⟨Nat.le_refl _⟩,⟨by (with_reducible repeat (first|apply Kd.R_alloc|apply Kd.R_drewN|apply Kd.R_drew)); exact HO0.out⟩,⟨by repeat (first|(with_reducible first|exact HK.out|apply Kept.alloc|apply Kept.drewN|apply Kept.drew)|exact HK.out)⟩,⟨by repeat (first|(with_reducible first|exact HB.out|apply below_alloc|apply pw_below_drewN|apply below_drew1)|exact HB.out)⟩⟩
 case round =>
  clear H'
  try clear c1
  try clear p2
  obtain ⟨x0_1,x2_1,x3_1,rfl,rfl,HA,HK1,HO_0,HK,HB⟩:=hrel
  have hl0_1:=(Kd.R_reads' HO_0.out).1
  rw [hl0_1] at HO_0
  (try simp only [hl0_1])
  cases gk with
  | zero=>exact absurd HA.out (by simp [slices_Reverse_byte_byte.l0])
  | succ k1 =>
   have H:=HA.out
   clear HA
   simp only [slices_Reverse_byte_byte.l0] at H
   by_cases c3:x2_1<x3_1
   ·rw [if_pos c3] at H
    have c3b0:decide (x2_1<x3_1)=true:=decide_eq_true c3
    clear c3
    by_cases c4:0≤x3_1
    ·rw [if_pos c4] at H
     have c4b0:decide (0≤x3_1)=true:=decide_eq_true c4
     clear c4
     by_cases c5:x3_1<(x0_1.length:Int)
     ·rw [if_pos c5] at H
      have c5b0:decide (x3_1<(x0_1.length:Int))=true:=decide_eq_true c5
      clear c5
      by_cases c6:0≤x2_1
      ·rw [if_pos c6] at H
       have c6b0:decide (0≤x2_1)=true:=decide_eq_true c6
       clear c6
       by_cases c7:x2_1<(x0_1.length:Int)
       ·rw [if_pos c7] at H
        have c7b0:decide (x2_1<(x0_1.length:Int))=true:=decide_eq_true c7
        clear c7
        obtain ⟨y164,hy164⟩:∃ y_:List Int,y_=(x0_1.set (x2_1:Int).toNat (rd x0_1 x3_1)):=⟨_,rfl⟩
        replace H:(slices_Reverse_byte_byte.l0 k1 (y164.set (x3_1:Int).toNat (rd x0_1 x2_1)) (wrap64 (x2_1+1)) (wrap64 (x3_1-1)))=some r:=by first|(rw [hy164]; with_reducible exact H)|(have H2_:=(Option.bind_some _ _).symm.trans H; rw [hy164]; with_reducible exact H2_)|(have H2_:=(Option.bind_some _ _).symm.trans H; with_reducible exact H2_)|with_reducible exact H|(rw [hy164]; exact H)|exact H
        have Ny164:=Aside0.mk hy164
        clear hy164
        obtain ⟨y165,hy165⟩:∃ y_:List Int,y_=(y164.set (x3_1:Int).toNat (rd x0_1 x2_1)):=⟨_,rfl⟩
        replace H:(slices_Reverse_byte_byte.l0 k1 y165 (wrap64 (x2_1+1)) (wrap64 (x3_1-1)))=some r:=by first|(rw [hy165]; with_reducible exact H)|(have H2_:=(Option.bind_some _ _).symm.trans H; rw [hy165]; with_reducible exact H2_)|(have H2_:=(Option.bind_some _ _).symm.trans H; with_reducible exact H2_)|with_reducible exact H|(rw [hy165]; exact H)|exact H
        have Ny165:=Aside0.mk hy165
        clear hy165
        have H':=Aside0.mk H
        clear H
        try go_wp2
        have n0_:=Aside0.mk (Kd.R_drew HO_0.out)
        have n1_:=Aside0.mk (Kept.drew HK.out)
        have n2_:=Aside0.mk (below_drew1 HB.out)
        clear HO_0
        clear HK
        clear HB
        have HO_0:=n0_
        have HK:=n1_
        have HB:=n2_
        clear n0_ n1_ n2_
        have p162:0≤(x3_1:Int):=of_decide_eq_true (by first|(with_reducible assumption)|assumption)
        have q162:x3_1<(x0_1.length:Int):=of_decide_eq_true (by first|(with_reducible assumption)|assumption)
        obtain ⟨ad162,e162,hx162_0⟩:=Kd.at_int (Kd.R_reads' HO_0.out).2.2 x3_1 p162 q162
        cases e162
        replace p162:=eq_true p162
        replace q162:=eq_true q162
        have p163:0≤(x2_1:Int):=of_decide_eq_true (by first|(with_reducible assumption)|assumption)
        have q163:x2_1<(x0_1.length:Int):=of_decide_eq_true (by first|(with_reducible assumption)|assumption)
        obtain ⟨ad163,e163,hx163_0⟩:=Kd.at_int (Kd.R_reads' HO_0.out).2.2 x2_1 p163 q163
        obtain rfl:ad162=ad163:=(by injection e163)
        replace p163:=eq_true p163
        replace q163:=eq_true q163
        have p8:0≤(x2_1:Int):=of_decide_eq_true (by first|(with_reducible assumption)|assumption)
        have q8:(x2_1:Int)<((x0_1.length:Int):Int):=of_decide_eq_true (by first|(with_reducible assumption)|assumption)
        obtain ⟨go8,co8,eo8,gb8,gl8,cl8,HG8⟩:=Kd.R_form HO_0.out (by omega)
        (first|cases eo8|(injection eo8 with ea_ en_ ec_; (first|subst ea_|(injection ea_ with ea_; subst ea_)); subst ec_; clear en_))
        have GB8:=Aside0.mk gb8
        have GG8:=Aside0.mk HG8
        clear gb8 gl8 HG8
        have HMgo8:=Aside0.mk (show (P0_ go8∨w.heap.size≤go8) from (HO_0.out.1 _ rfl))
        (first|simp only [add_plain] at hx162_0|skip)
        (first|simp only [add_plain] at hx163_0|skip)
        obtain ⟨hx8_0,hf8_0⟩:=Kd.R_celln 0 HO_0.out (x2_1:Int) p8 q8
        replace p8:=eq_true p8
        replace q8:=eq_true q8
        have HP11:=Kd.R_putn HO_0.out (x2_1:Int) (rd x0_1 x3_1)
        rw [←Ny164.out] at HP11
        have HQ11:=Aside0.mk HP11
        clear HP11
        have p9:0≤(x3_1:Int):=of_decide_eq_true (by first|(with_reducible assumption)|assumption)
        have q9:(x3_1:Int)<((x0_1.length:Int):Int):=of_decide_eq_true (by first|(with_reducible assumption)|assumption)
        obtain ⟨hx9_0,hf9_0⟩:=Kd.R_celln 0 HQ11.out (x3_1:Int) p9 q9
        replace p9:=eq_true p9
        replace q9:=eq_true q9
        have HP12:=Kd.R_putn HQ11.out (x3_1:Int) (rd x0_1 x2_1)
        rw [←Ny165.out] at HP12
        have HQ12:=Aside0.mk HP12
        clear HP12
        refine start_ (n:=16) (S:=fun w'=>w'.cell? ⟨go8,(x3_1).toNat,none⟩=some (.int .u8 (rd x0_1 x3_1))∧w'.cell? ⟨go8,(x2_1).toNat,none⟩=some (.int .u8 (rd x0_1 x2_1))) (ds:=[13,15]) #[false,false,false,false,false,false,false,false,false,false,false,false,false,false,false,false] (by kernel_rfl) rfl rfl ⟨hx162_0,hx163_0⟩ (fun hHeld => ?_); refine with_tabW slices_Reverse_byte_byte.tab3 slices_Reverse_byte_byte.bits3 (fun HT_ HW_ => ?_)
        generalize wr.drew=w10 at HO_0 HK HB GG8 HQ11 HQ12 hf8_0 hf9_0 hx162_0 hx163_0 hx8_0 hx9_0 hHeld ⊢
        refine pure_ (i:=0) (N:=some 14) (v:=?_) (a':=?_) #[true,false,false,false,false,false,false,false,false,false,false,false,false,false,false,false] rfl rfl (any_of HT_.out (by kernel_rfl)) (fun _ _ _ h=>h) (Or.inl ⟨by rfl,?_⟩) ?_ ?_
        rotate_left
        ·intro w'
         go_simp
         with_reducible rfl
        rotate_left
        ·simp only [Act.put,List.setIfInBounds_toArray,List.set_cons_zero,List.set_cons_succ,i64_w,i32_w]
         rfl
        refine pure_ (i:=1) (N:=some 15) (v:=?_) (a':=?_) #[true,true,false,false,false,false,false,false,false,false,false,false,false,false,false,false] rfl rfl (any_of HT_.out (by kernel_rfl)) (fun _ _ _ h=>h) (Or.inl ⟨by rfl,?_⟩) ?_ ?_
        rotate_left
        ·intro w'
         go_simp
         with_reducible rfl
        rotate_left
        ·simp only [Act.put,List.setIfInBounds_toArray,List.set_cons_zero,List.set_cons_succ,i64_w,i32_w]
         rfl
        refine pure_ (i:=2) (N:=some 16) (v:=?_) (a':=?_) #[true,true,true,false,false,false,false,false,false,false,false,false,false,false,false,false] rfl rfl (any_of HT_.out (by kernel_rfl)) (fun _ _ _ h=>h) (Or.inl ⟨by rfl,?_⟩) ?_ ?_
        rotate_left
        ·intro w'
         go_simp
         with_reducible rfl
        rotate_left
        ·simp only [Act.put,List.setIfInBounds_toArray,List.set_cons_zero,List.set_cons_succ,i64_w,i32_w]
         rfl
        refine pure_ (i:=3) (N:=some 17) (v:=?_) (a':=?_) #[true,true,true,true,false,false,false,false,false,false,false,false,false,false,false,false] rfl rfl (any_of HT_.out (by kernel_rfl)) (fun _ _ _ h=>h) (Or.inl ⟨by rfl,?_⟩) ?_ ?_
        rotate_left
        ·intro w'
         go_simp
         with_reducible rfl
        rotate_left
        ·simp only [Act.put,List.setIfInBounds_toArray,List.set_cons_zero,List.set_cons_succ,i64_w,i32_w]
         rfl
        refine pure_ (i:=4) (N:=some 18) (v:=?_) (a':=?_) #[true,true,true,true,true,false,false,false,false,false,false,false,false,false,false,false] rfl rfl (any_of HT_.out (by kernel_rfl)) (fun _ _ _ h=>h) (Or.inl ⟨by rfl,?_⟩) ?_ ?_
        rotate_left
        ·intro w'
         go_simp
         with_reducible rfl
        rotate_left
        ·simp only [Act.put,List.setIfInBounds_toArray,List.set_cons_zero,List.set_cons_succ,i64_w,i32_w]
         rfl
        refine pure_ (i:=5) (N:=some 19) (v:=?_) (a':=?_) #[true,true,true,true,true,true,false,false,false,false,false,false,false,false,false,false] rfl rfl (any_of HT_.out (by kernel_rfl)) (fun _ _ _ h=>h) (Or.inl ⟨by rfl,?_⟩) ?_ ?_
        rotate_left
        ·intro w'
         go_simp
         with_reducible rfl
        rotate_left
        ·simp only [Act.put,List.setIfInBounds_toArray,List.set_cons_zero,List.set_cons_succ,i64_w,i32_w]
         rfl
        refine pure_ (i:=6) (N:=some 20) (v:=?_) (a':=?_) #[true,true,true,true,true,true,true,false,false,false,false,false,false,false,false,false] rfl rfl (any_of HT_.out (by kernel_rfl)) (fun _ _ _ h=>h) (Or.inl ⟨by rfl,?_⟩) ?_ ?_
        rotate_left
        ·intro w'
         go_simp
         with_reducible rfl
        rotate_left
        ·simp only [Act.put,List.setIfInBounds_toArray,List.set_cons_zero,List.set_cons_succ,i64_w,i32_w]
         rfl
        refine pure_ (i:=8) (N:=some 22) (v:=?_) (a':=?_) #[true,true,true,true,true,true,true,false,true,false,false,false,false,false,false,false] rfl rfl (any_of HT_.out (by kernel_rfl)) (fun _ _ _ h=>h) (Or.inl ⟨by rfl,?_⟩) ?_ ?_
        rotate_left
        ·intro w'
         go_simp
         with_reducible rfl
        rotate_left
        ·simp only [Act.put,List.setIfInBounds_toArray,List.set_cons_zero,List.set_cons_succ,i64_w,i32_w]
         rfl
        refine pure_ (i:=9) (N:=some 23) (v:=?_) (a':=?_) #[true,true,true,true,true,true,true,false,true,true,false,false,false,false,false,false] rfl rfl (any_of HT_.out (by kernel_rfl)) (fun _ _ _ h=>h) (Or.inl ⟨by rfl,?_⟩) ?_ ?_
        rotate_left
        ·intro w'
         go_simp
         with_reducible rfl
        rotate_left
        ·simp only [Act.put,List.setIfInBounds_toArray,List.set_cons_zero,List.set_cons_succ,i64_w,i32_w]
         rfl
        refine pure_ (i:=10) (N:=some 24) (v:=?_) (a':=?_) #[true,true,true,true,true,true,true,false,true,true,true,false,false,false,false,false] rfl rfl (any_of HT_.out (by kernel_rfl)) (fun _ _ _ h=>h) (Or.inl ⟨by rfl,?_⟩) ?_ ?_
        rotate_left
        ·intro w'
         go_simp
         with_reducible rfl
        rotate_left
        ·simp only [Act.put,List.setIfInBounds_toArray,List.set_cons_zero,List.set_cons_succ,i64_w,i32_w]
         rfl
        refine take_ (i:=7) (N:=some 21) (v:=?_) (a':=?_) #[true,true,true,true,true,true,true,true,true,true,true,false,false,false,false,false] rfl rfl (take_ofW HT_.out HW_.out (by kernel_rfl)) (fun _ _ _ h=>h) (Or.inl ⟨by rfl,?_⟩) hHeld ?_ ?_
        rotate_left
        ·rintro w' ⟨s0,s1⟩
         go_simp
         with_reducible rfl
        rotate_left
        ·simp only [Act.put,List.setIfInBounds_toArray,List.set_cons_zero,List.set_cons_succ,i64_w,i32_w]
         rfl
        refine take_ (i:=11) (N:=some 25) (v:=?_) (a':=?_) #[true,true,true,true,true,true,true,true,true,true,true,true,false,false,false,false] rfl rfl (take_ofW HT_.out HW_.out (by kernel_rfl)) (fun _ _ _ h=>h) (Or.inl ⟨by rfl,?_⟩) hHeld ?_ ?_
        rotate_left
        ·rintro w' ⟨s0,s1⟩
         go_simp
         with_reducible rfl
        rotate_left
        ·simp only [Act.put,List.setIfInBounds_toArray,List.set_cons_zero,List.set_cons_succ,i64_w,i32_w]
         rfl
        refine pure_ (i:=12) (N:=some 26) (v:=?_) (a':=?_) #[true,true,true,true,true,true,true,true,true,true,true,true,true,false,false,false] rfl rfl (any_of HT_.out (by kernel_rfl)) (fun _ _ _ h=>h) (Or.inl ⟨by rfl,?_⟩) ?_ ?_
        rotate_left
        ·intro w'
         go_simp
         with_reducible rfl
        rotate_left
        ·simp only [Act.put,List.setIfInBounds_toArray,List.set_cons_zero,List.set_cons_succ,i64_w,i32_w]
         rfl
        refine last_ (i:=13) (N:=none) #[true,true,true,true,true,true,true,true,true,true,true,true,true,true,false,false] rfl rfl (one_of HT_.out (by kernel_rfl)) (by decide) (fun K hK => ?_)
        refine skip_ (w1:=?_) (by rfl) rfl ?_ ?_
        rotate_left
        ·go_simp
         rfl
        refine hK.out _ _ ?_
        clear hK K
        refine pure_ (i:=14) (N:=some 27) (v:=?_) (a':=?_) #[true,true,true,true,true,true,true,true,true,true,true,true,true,true,true,false] rfl rfl (any_of HT_.out (by kernel_rfl)) (fun _ _ _ h=>h) (Or.inl ⟨by rfl,?_⟩) ?_ ?_
        rotate_left
        ·intro w'
         go_simp
         with_reducible rfl
        rotate_left
        ·simp only [Act.put,List.setIfInBounds_toArray,List.set_cons_zero,List.set_cons_succ,i64_w,i32_w]
         rfl
        refine last_ (i:=15) (N:=none) #[true,true,true,true,true,true,true,true,true,true,true,true,true,true,true,true] rfl rfl (one_of HT_.out (by kernel_rfl)) (by decide) (fun K hK => ?_)
        refine skip_ (w1:=?_) (by rfl) rfl ?_ ?_
        rotate_left
        ·go_simp
         rfl
        refine hK.out _ _ ?_
        clear hK K
        refine done_ (done_of HT_.out (by kernel_rfl)) ?_
        try go_wp2
        (try simp only [←hl0_1])
        go_roundg k1
        case measure=>have:=HK1.out; omega
        case rel=>exact ⟨(y165),(wrap64 (x2_1+1)),(wrap64 (x3_1-1)),(by first|rfl|(simp; done)|(simp [*]; done)),(by first|rfl|(simp; done)|(simp [*]; done)),H',⟨by have:=HK1.out; omega⟩,⟨by (try simp only [hl0_1]); (with_reducible repeat (first|apply Kd.R_alloc|apply Kd.R_drewN|apply Kd.R_drew)); exact HQ12.out⟩,⟨by repeat (first|(with_reducible first|exact HK.out|apply Kept.alloc|apply Kept.drewN|apply Kept.drew|refine Kept.setCell ?_ HMgo8.out _|refine Kept.setCell ?_ HMgo8.out _)|exact HK.out)⟩,⟨by repeat (first|(with_reducible first|exact HB.out|apply below_alloc|apply pw_below_drewN|apply below_drew1|refine below_set ?_ GB8.out|refine below_set ?_ GB8.out)|exact HB.out)⟩⟩
       ·rw [if_neg c7] at H
        exact absurd H (by simp)
      ·rw [if_neg c6] at H
       exact absurd H (by simp)
     ·rw [if_neg c5] at H
      exact absurd H (by simp)
    ·rw [if_neg c4] at H
     exact absurd H (by simp)
   ·rw [if_neg c3] at H
    have c3b0:decide (x2_1<x3_1)=false:=decide_eq_false c3
    clear c3
    obtain rfl:=Option.some.inj H
    go_wp2
    first|go_end0|((try simp only [Exit.inBlock,Exit.then]); refine bodyPost_ret (results_none rfl _ _ _) rfl ?_)
    exact ⟨by first|rfl|(simp [errW_none,errW_some]<;>rfl)|(simp [*,errW_none,errW_some]<;>rfl),(by first|exact (by (with_reducible repeat (first|apply Kd.R_alloc|apply Kd.R_drewN|apply Kd.R_drew)); exact HO_0.out)|(simp only [hl0_1]; exact (by (with_reducible repeat (first|apply Kd.R_alloc|apply Kd.R_drewN|apply Kd.R_drew)); exact HO_0.out))),by repeat (first|(with_reducible first|exact HB.out|apply below_alloc|apply pw_below_drewN|apply below_drew1)|exact HB.out),by repeat (first|(with_reducible first|exact HK.out|apply Kept.alloc|apply Kept.drewN|apply Kept.drew)|exact HK.out)⟩
end Go.Proofs.YtglaeambknhjlaaGreatDoor.P
end
section
namespace Go.Proofs.YtglaeambknhjlaaGreatDoor.P
open Go.RowKit Go.Proofs.YtglaeambknhjlaaGreatDoorW.PrintWords
theorem rd_set (x:List Int) (a j:Nat) (v:Int) (h:a<x.length):rd (x.set a v) (j:Int)=if a=j then v else rd x (j:Int):=by
 split
 ·rename_i e; subst e; rw [rd_lt (by simpa using h)]; simp
 ·rename_i e; exact rd_set_ne e v
theorem rev_loop (l:List Int) (hm:l.length≤9223372036854775806):∀ (d i:Nat) (x:List Int),d=l.length-2*i→2*i≤l.length+1→x.length=l.length→(∀ j,j<l.length→rd x (j:Int)=if j<i∨l.length-1<i+j then rd l ((l.length-1-j:Nat):Int) else rd l (j:Int)) →
  ∀ k,d<k→slices_Reverse_byte_byte.l0 k x (i:Int) ((l.length:Int)-1-i)=some l.reverse:=by
 intro d
 induction d using Nat.strongRecOn with
 | ind d ih =>
  intro i x hd hi hx hr k hk
  obtain ⟨k,rfl⟩:∃ k',k=k'+1:=⟨k-1,by omega⟩
  unfold slices_Reverse_byte_byte.l0
  by_cases hc:2*i+1<l.length
  ·obtain ⟨m,hmm⟩:∃ m:Nat,m+i+1=l.length:=⟨l.length-i-1,by omega⟩
   have em:(l.length:Int)-1-(i:Int)=(m:Int):=by omega
   rw [em,if_pos (by omega),if_pos (by omega),if_pos (by omega),if_pos (by omega),if_pos (by omega)]
   rw [w64 (by omega) (by omega),w64 (by omega) (by omega)]
   have e2:(m:Int)-1=(l.length:Int)-1-((i+1:Nat):Int):=by omega
   rw [e2,show (i:Int)+1=((i+1:Nat):Int) by omega,Int.toNat_natCast,Int.toNat_natCast]
   refine ih (l.length-2*(i+1)) (by omega) (i+1) _ rfl (by omega) (by simpa using hx) ?_ k (by omega)
   intro j hj
   rw [rd_set _ _ _ _ (by rw [List.length_set]; omega),rd_set _ _ _ _ (by omega)]
   have r1:=hr m (by omega)
   have r2:=hr i (by omega)
   have r3:=hr j hj
   rw [if_neg (by omega)] at r1 r2
   by_cases h1:m=j
   ·subst h1; rw [if_pos rfl,if_pos (by omega),r2,show l.length-1-m=i by omega]
   ·rw [if_neg h1]
    by_cases h2:i=j
    ·subst h2; rw [if_pos rfl,if_pos (by omega),r1,show l.length-1-i=m by omega]
    ·rw [if_neg h2,r3]
     by_cases h3:j<i∨l.length-1<i+j
     ·rw [if_pos h3,if_pos (by omega)]
     ·rw [if_neg h3,if_neg (by omega)]
  ·rw [if_neg (by omega)]
   refine congrArg some (List.ext_getElem (by simpa using hx) fun j h1 h2 => ?_)
   have r3:=hr j (by omega)
   rw [rd_lt h1] at r3
   rw [r3,List.getElem_reverse,←rd_lt]
   split
   ·rfl
   ·rw [show l.length-1-j=j by omega]
theorem rev_tells (l:List Int) (hm:l.length≤9223372036854775806):slices_Reverse_byte_byte.f (l.length+1) l=some l.reverse:=by
 unfold slices_Reverse_byte_byte.f
 rw [w64 (by omega) (by omega)]
 have:=rev_loop l hm l.length 0 l (by omega) (by omega) rfl (fun j hj=>by rw [if_neg (by omega)]) (l.length+1) (by omega)
 simpa using this
theorem own8_of_R {w:World} {base:Nat} {ok:Nat→Prop} {v:Value} {zs:List Int} (h:Kd.R (Kd.int .u8) 5 w base ok v zs):w.ownsRow base 5 1 v zs.length (nums .u8 zs):=by
 obtain ⟨_,inner,ho,hr⟩:=h
 have e:=Kd.reps_encs hr
 subst e
 exact ho
theorem reps_nums (k:IntKind) (l:List Int):Reps (fun (x:Int) (cs:List Value)=>cs = [.int k x]) 1 l (nums k l):=by
 induction l with
 | nil=>exact Reps.none _ _
 | cons x xs ih=>exact Reps.one rfl ih
theorem R_of_own8 {w:World} {base:Nat} {v:Value} {zs:List Int} (h:w.ownsRow base 5 1 v zs.length (nums .u8 zs)):Kd.R (Kd.int .u8) 5 w base (fun _=>True) v zs:=
 ⟨fun _ _=>trivial,nums .u8 zs,h,reps_nums .u8 zs⟩
theorem rev_calls (v:Value) (l:List Int) (w0 w:World) (hB:Below w0.heap.size w0 w) (ho:w.ownsRow w0.heap.size 5 1 v l.length (nums .u8 l)) (hm:l.length≤9223372036854775806) :
  Calls Tryz.prog 191 #[v] w fun e w'=>e = .returned (.tuple #[])∧w'.ownsRow w0.heap.size 5 1 v l.reverse.length (nums .u8 l.reverse)∧Below w0.heap.size w0 w':=by
 refine (slices_Reverse_byte_byte.calls (l.length+1) (fun _=>True) v l l.reverse w0 w hB (R_of_own8 ho) (rev_tells l hm)).mono fun e w' ⟨he,hr,hb,_⟩=>⟨he,own8_of_R hr,hb⟩
theorem Bd.le {n:Nat} {x y:Int} (h:Bd n y) (hle:x.natAbs≤y.natAbs):Bd n x:=Nat.lt_of_le_of_lt hle h
theorem Bd.mul {n m:Nat} {x y:Int} (h:Bd n x) (k:Bd m y):Bd (n+m) (x*y):=by
 unfold Bd at *
 rw [Int.natAbs_mul,Nat.pow_add]
 rcases Nat.eq_zero_or_pos x.natAbs with hx|hx
 ·rw [hx,Nat.zero_mul]; exact Nat.mul_pos (Nat.pow_pos (by decide)) (Nat.pow_pos (by decide))
 ·exact Nat.mul_lt_mul'' h k
theorem Bd.add {n:Nat} {x y:Int} (h:Bd n x) (k:Bd n y):Bd (n+1) (x+y):=by
 unfold Bd at *
 rw [Nat.pow_succ]; omega
theorem Bd.neg {n:Nat} {x:Int} (h:Bd n x):Bd n (-x):=by unfold Bd at *; rwa [Int.natAbs_neg]
theorem Bd.abs {n:Nat} {x:Int} (h:Bd n x):Bd n (x.natAbs:Int):=by unfold Bd at *; rwa [Int.natAbs_natCast]
def Bdr (n:Nat) (x:Rat):Prop:=Bd n x.num∧Bd n (x.den:Int)
theorem Bdr.mono {n m:Nat} {x:Rat} (h:Bdr n x) (hm:n≤m):Bdr m x:=⟨h.1.mono hm,h.2.mono hm⟩
theorem div_parts (x y:Int) (hy:y≠0):(Rat.divInt x y).num=sg ((x<0) != (y<0)) ((x.natAbs/Int.gcd x y:Nat):Int)∧(Rat.divInt x y).den=y.natAbs/Int.gcd x y:=by
 have hg:Int.gcd y x=Int.gcd x y:=Int.gcd_comm y x
 constructor
 ·have hdv:((Int.gcd x y:Nat):Int)∣(x.natAbs:Int):=Int.natCast_dvd_natCast.2 (Nat.gcd_dvd_left x.natAbs y.natAbs)
  have e1:=Int.neg_ediv_of_dvd hdv
  rw [Rat.num_divInt,hg,Int.natCast_ediv]
  generalize ((Int.gcd x y:Nat):Int)=g at *
  rcases Int.lt_trichotomy y 0 with h|h|h
  ·rw [Int.sign_eq_neg_one_of_neg h]
   by_cases hx:x<0
   ·rw [show -1*x=(x.natAbs:Int) by omega]
    simp [sg,hx,h]
   ·rw [show -1*x = -(x.natAbs:Int) by omega,e1]
    simp [sg,hx,h]
  ·exact absurd h hy
  ·rw [Int.sign_eq_one_of_pos h]
   have h':¬ y<0:=by omega
   by_cases hx:x<0
   ·rw [show 1*x = -(x.natAbs:Int) by omega,e1]
    simp [sg,hx,h']
   ·rw [show 1*x=(x.natAbs:Int) by omega]
    simp [sg,hx,h']
 ·rw [Rat.den_divInt,if_neg hy,hg]
theorem Bdr.divInt {n:Nat} {x y:Int} (hy:y≠0) (h:Bd n x) (k:Bd n y):Bdr n (Rat.divInt x y):=by
 obtain ⟨h1,h2⟩:=div_parts x y hy
 constructor
 ·refine h.le ?_
  rw [h1]
  have:=Nat.div_le_self x.natAbs (Int.gcd x y)
  unfold sg
  split
  ·rw [Int.natAbs_neg,Int.natAbs_natCast]; exact this
  ·rw [Int.natAbs_natCast]; exact this
 ·refine k.le ?_
  rw [h2,Int.natAbs_natCast]
  exact Nat.div_le_self _ _
theorem rat_divInt (x:Rat):Rat.divInt x.num x.den=x:=Rat.num_divInt_den x
theorem add_divInt (x y:Rat):x+y=Rat.divInt (x.num*y.den+y.num*x.den) (x.den*y.den):=by
 have h1:(x.den:Int)≠0:=by have:=x.den_nz; omega
 have h2:(y.den:Int)≠0:=by have:=y.den_nz; omega
 rw [←Rat.divInt_add_divInt _ _ h1 h2,rat_divInt,rat_divInt]
theorem mul_divInt (x y:Rat):x*y=Rat.divInt (x.num*y.num) (x.den*y.den):=by
 rw [←Rat.divInt_mul_divInt,rat_divInt,rat_divInt]
theorem inv_divInt' (x:Rat):x⁻¹=Rat.divInt x.den x.num:=Rat.inv_def x
theorem den_ne (x:Rat):(x.den:Int)≠0:=by have:=x.den_nz; omega
theorem den_mul_ne (x y:Rat):(x.den:Int)*y.den≠0:=Int.mul_ne_zero (den_ne x) (den_ne y)
theorem Bdr.add {n m:Nat} {x y:Rat} (h:Bdr n x) (k:Bdr m y):Bdr (n+m+1) (x+y):=by
 rw [add_divInt]
 refine Bdr.divInt (den_mul_ne x y) ((h.1.mul k.2).add ?_) ((h.2.mul k.2).mono (by omega))
 have:=k.1.mul h.2
 rwa [Nat.add_comm m n] at this
theorem Bdr.mul {n m:Nat} {x y:Rat} (h:Bdr n x) (k:Bdr m y):Bdr (n+m) (x*y):=by
 rw [mul_divInt]
 exact Bdr.divInt (den_mul_ne x y) (h.1.mul k.1) (h.2.mul k.2)
theorem num_ne {x:Rat} (hx:x≠0):x.num≠0:=fun h=>hx (Rat.num_eq_zero.1 h)
theorem Bdr.inv {n:Nat} {x:Rat} (h:Bdr n x) (hx:x≠0):Bdr n x⁻¹:=by
 rw [inv_divInt']
 exact Bdr.divInt (num_ne hx) h.2 h.1
theorem Bdr.neg {n:Nat} {x:Rat} (h:Bdr n x):Bdr n (-x):=⟨by rw [Rat.neg_num]; exact h.1.neg,h.2⟩
theorem Bdr.sub {n m:Nat} {x y:Rat} (h:Bdr n x) (k:Bdr m y):Bdr (n+m+1) (x-y):=by
 rw [Rat.sub_eq_add_neg]; exact h.add k.neg
theorem Bdr.int {n:Nat} {x:Int} (h:Bd n x) (hn:0<n):Bdr n (x:Rat):=⟨h,by
 show Bd n (1:Int)
 unfold Bd
 have:2^1≤2^n:=Nat.pow_le_pow_right (by decide) hn
 have:(1:Int).natAbs=1:=rfl
 omega⟩
structure RatAt (w:World) (g:Nat) (x:Rat):Prop where
 num:IntAt w g 0 x.num
 den:∃ d:Int,IntAt w g 2 d∧(d=x.den∨(d=0∧x.den=1))
theorem RatAt.slot {w:World} {g:Nat} {x:Rat} (h:RatAt w g x):Slot w g 2:=by
 obtain ⟨d,hd,_⟩:=h.den
 exact hd.slot
theorem Slot.lo {w:World} {g:Nat} (h:Slot w g 2):Slot w g 0:=by
 obtain ⟨cs,t,hb,hs,ht⟩:=h
 exact ⟨cs,t,hb,by omega,ht⟩
theorem RatAt.lt {w:World} {g:Nat} {x:Rat} (h:RatAt w g x):g<w.heap.size:=h.num.lt
theorem RatAt.upd {w w':World} {g b lo hi:Nat} {x:Rat} (h:RatAt w g x) (k:Upd w w' b lo hi) (hd:g≠b):RatAt w' g x:=by
 obtain ⟨d,h1,h2⟩:=h.den
 exact ⟨h.num.upd k (Or.inl hd),d,h1.upd k (Or.inl hd),h2⟩
theorem RatAt.below {w w':World} {g:Nat} {x:Rat} (h:RatAt w g x) (k:Below w.heap.size w w'):RatAt w' g x:=by
 obtain ⟨d,h1,h2⟩:=h.den
 exact ⟨h.num.below k,d,h1.below k,h2⟩
theorem RatAt.new (w:World) (t:TypeId) (ht:t≠171):RatAt (w.alloc (.cells #[.bool false,.slice none 0 0,.bool false,.slice none 0 0] t)) w.heap.size 0:=by
 obtain ⟨h1,h2⟩:=IntAt.newRat w t ht
 exact ⟨h1,0,h2,Or.inr ⟨rfl,rfl⟩⟩
theorem Slot.below {w w':World} {b o:Nat} (h:Slot w b o) (k:Below w.heap.size w w'):Slot w' b o:=h.upd (Upd.of_below k 0 0 0)
theorem Upd.new {w0 w w':World} {g lo hi:Nat} (k:Upd w w' g lo hi) (h:Below w0.heap.size w0 w) (hg:w0.heap.size≤g):Below w0.heap.size w0 w':=Upd.below_tmp h k hg
theorem Upd.lift {w0 w w':World} {g lo hi:Nat} (k:Upd w w' g lo hi) (h:Below w0.heap.size w0 w):Upd w0 w' g lo hi:=(Upd.of_below h _ _ _).trans k
def T (n:Nat):ByteArray:=⟨(decl n).toArray⟩
theorem T_data (n:Nat):(T n).data.toList=decl n:=by simp [T]
theorem T_size (n:Nat):(T n).size=(decl n).length:=by show (decl n).toArray.size=_; simp
theorem T_dval (n:Nat):dval (T n).data.toList=n:=by rw [T_data,dval_decl]
theorem T_inj {a b:Nat} (h:T a=T b):a=b:=by rw [←T_dval a,h,T_dval]
theorem decl_length_pos (n:Nat):0<(decl n).length:=by
 unfold decl
 split
 ·simp
 ·rw [List.length_reverse,rdig_pos (by omega)]; simp
theorem rdig_length_le {k n:Nat}:(rdig n).length≤k↔n<10^k:=by
 induction k generalizing n with
 | zero =>
  rcases Nat.eq_zero_or_pos n with h|h
  ·subst h; rw [rdig_zero]; simp
  ·rw [rdig_pos h]; simp; omega
 | succ k ih =>
  rcases Nat.eq_zero_or_pos n with h|h
  ·subst h; rw [rdig_zero]; simp
   exact Nat.pow_pos (by decide)
  ·rw [rdig_pos h,List.length_cons,Nat.succ_le_succ_iff,ih,Nat.div_lt_iff_lt_mul (by decide),Nat.pow_succ]
theorem decl_length_le {k n:Nat} (hk:0<k):(decl n).length≤k↔n<10^k:=by
 unfold decl
 split
 ·rename_i h
  subst h
  have:=Nat.pow_pos (n:=k) (show 0<10 by decide)
  simp; omega
 ·rw [List.length_reverse,rdig_length_le]
theorem T_size_le {k n:Nat} (hk:0<k):(T n).size≤k↔n<10^k:=by rw [T_size,decl_length_le hk]
theorem decl_snoc {m d:Nat} (hm:0<m) (hd:d<10):decl (10*m+d)=decl m ++ [UInt8.ofNat (48+d)]:=by
 unfold decl
 rw [if_neg (by omega),if_neg (by omega),rdig_pos (by omega),show (10*m+d)%10=d by omega,show (10*m+d)/10=m by omega,List.reverse_cons]
theorem decl_one {d:Nat} (hd:d<10):decl d = [UInt8.ofNat (48+d)]:=by
 unfold decl
 split
 ·rename_i h; subst h; rfl
 ·rw [rdig_pos (by omega),show d%10=d by omega,show d/10=0 by omega,rdig_zero]; rfl
def Can (l:List UInt8):Prop:=0<l.length∧Dig l∧(l.head? = some 48→l.length=1)
theorem head_decl {n:Nat} (hn:0<n):(decl n).head? ≠ some 48:=by
 induction n using Nat.strongRecOn with
 | ind n ih =>
  by_cases h:n<10
  ·rw [decl_one h]
   intro he
   injection he with he
   have:=congrArg UInt8.toNat he
   rw [dig_toNat n h] at this
   have h2:(48:UInt8).toNat=48:=rfl
   omega
  ·have e:decl n=decl (n/10) ++ [UInt8.ofNat (48+n%10)]:=by
    have:=decl_snoc (m:=n/10) (d:=n%10) (by omega) (by omega)
    rwa [show 10*(n/10)+n%10=n by omega] at this
   have h2:=ih (n/10) (by omega) (by omega)
   have h3:=decl_length_pos (n/10)
   rw [e]
   rcases hd:decl (n/10) with _|⟨c,t⟩
   ·rw [hd] at h3; simp at h3
   ·rw [hd] at h2; simpa using h2
theorem can_decl (n:Nat):Can (decl n):=by
 refine ⟨decl_length_pos n,dig_decl n,fun h => ?_⟩
 rcases Nat.eq_zero_or_pos n with h0|h0
 ·subst h0; rfl
 ·exact absurd h (head_decl h0)
theorem dval_pos {l:List UInt8} (hd:Dig l) (hl:0<l.length) (hh:l.head? ≠ some 48):0<dval l:=by
 rcases l with _|⟨c,t⟩
 ·simp at hl
 ·have h1:=hd c List.mem_cons_self
  have h2:c.toNat≠48:=fun e=>hh (by
   have:c=48:=UInt8.toNat_inj.1 e
   rw [this]; rfl)
  rw [dval_cons]
  have h3:=Nat.pow_pos (n:=t.length) (show 0<10 by decide)
  have h4:1*10^t.length≤(c.toNat-48)*10^t.length:=Nat.mul_le_mul_right _ (by omega)
  omega
theorem dig_ofNat {c:UInt8} (h:48≤c.toNat∧c.toNat≤57):UInt8.ofNat (48+(c.toNat-48))=c:=by
 apply UInt8.toNat_inj.1
 rw [dig_toNat _ (by omega)]; omega
theorem decl_of_can:∀ (m:Nat) (l:List UInt8),l.length=m→Can l→decl (dval l)=l:=by
 intro m
 induction m with
 | zero=>intro l hl h; have:=h.1; omega
 | succ m ih =>
  intro l hl h
  obtain ⟨ys,y,rfl⟩:∃ ys y,l=ys ++ [y]:=by
   have hne:l ≠ []:=by intro e; subst e; simp at hl
   exact ⟨l.dropLast,l.getLast hne,(List.dropLast_concat_getLast hne).symm⟩
  have hy:=h.2.1 y (by simp)
  have e1:dval (ys ++ [y])=10*dval ys+(y.toNat-48):=by rw [dval_append]; simp [dval]; omega
  rw [e1]
  rcases ys with _|⟨c,t⟩
  ·rw [show dval []=0 from rfl,Nat.mul_zero,Nat.zero_add,decl_one (by omega),dig_ofNat hy]; rfl
  ·have hd:Dig (c :: t):=fun u hu=>h.2.1 u (List.mem_append_left _ hu)
   have hh:(c :: t).head? ≠ some 48:=fun e=>by
    have:=h.2.2 (by rw [List.cons_append]; exact e)
    simp at this
   have hc:Can (c :: t):=⟨by simp,hd,fun e=>absurd e hh⟩
   rw [decl_snoc (dval_pos hd (by simp) hh) (by omega),ih (c :: t) (by simp at hl ⊢; omega) hc,dig_ofNat hy]
theorem can_T {s:ByteArray} (h:Can s.data.toList):s=T (dval s.data.toList):=by
 have:=decl_of_can _ _ rfl h
 unfold T
 rw [this]
theorem T_can (n:Nat):Can (T n).data.toList:=by rw [T_data]; exact can_decl n
def wtext (x:Int):ByteArray:=⟨((if x<0 then [45] else [])++decl x.natAbs).toArray⟩
def bints (bs:List UInt8):List Int:=bs.map fun b=>(b.toNat:Int)
structure TSt (w wr:World) (N:Nat) (v:Value) (bs:List UInt8) (A:Option Addr) (c:Nat) (us:List Int):Prop where
 own:wr.ownsRow w.heap.size 5 1 v (bints bs).length (nums .u8 (bints bs))
 wu:WAt wr A c us
 du:Wd us
 tu:us.getLast? ≠ some 0
 lu:us.length≤34359738368
 below:Below w.heap.size w wr
 eq:rdig N=bs++rdig (val us).toNat
 len:bs.length≤1099511627776
def left9 (q r k:Nat):List UInt8:=if 0<q then pad k r++rdig q else rdig r
theorem left9_start (q r:Nat) (hr:r<1000000000):rdig (q*1000000000+r)=left9 q r 9:=by
 unfold left9
 split
 ·rename_i h; exact rdig_split 9 r q hr h
 ·have:q=0:=by omega
  subst this; rw [Nat.zero_mul,Nat.zero_add]
theorem left9_more (q r k:Nat) (h:0<q∨0<r):left9 q r (k+1)=UInt8.ofNat (48+r%10) :: left9 q (r/10) k:=by
 unfold left9
 split
 ·rfl
 ·exact rdig_pos (by omega)
theorem left9_zero (q:Nat) (r:Nat) (hr:r=0):left9 q r 0=rdig q:=by
 subst hr
 unfold left9
 split
 ·rfl
 ·have:q=0:=by omega
  subst this; rfl
theorem left9_none (k:Nat):left9 0 0 k=rdig 0:=by unfold left9; rw [if_neg (by decide)]
structure USt (w wr:World) (N:Nat) (v:Value) (bs:List UInt8) (A:Option Addr) (c:Nat) (us:List Int) (r i:Nat):Prop where
 own:wr.ownsRow w.heap.size 5 1 v (bints bs).length (nums .u8 (bints bs))
 wu:WAt wr A c us
 du:Wd us
 tu:us.getLast? ≠ some 0
 lu:us.length≤34359738368
 below:Below w.heap.size w wr
 eq:rdig N=bs++left9 (val us).toNat r (9-i)
 rl:r<10^(9-i)
theorem USt.len {w wr:World} {N:Nat} {v:Value} {bs:List UInt8} {A:Option Addr} {c:Nat} {us:List Int} {r i:Nat} (h:USt w wr N v bs A c us r i) {n:Nat} (hN:N<2^n):bs.length≤n:=by
 have h1:N<10^n:=Nat.lt_of_lt_of_le hN (Nat.pow_le_pow_left (by decide) n)
 have h2:=rdig_length_le.2 h1
 rw [h.eq,List.length_append] at h2
 omega
theorem own_below {w w':World} {base e n:Nat} {v:Value} {xs:List Value} (h:w.ownsRow base e 1 v n xs) (hb:Below w.heap.size w w'):w'.ownsRow base e 1 v n xs:=
 World.ownsRow.kept (row:=none) h (World.grownBy.mk hb.os hb.tape hb.output hb.size (fun k hk _=>hb.block k hk)) (Classical.em _)
theorem infoU8:(Tryz.prog.info? 5).map (fun i=>(i.zero,i.size,i.bytes))=some (some (.int .u8 0),1,1):=by kernel_rfl
theorem digit_byte (r:Nat):(((UInt8.ofNat (48+r%10)).toNat:Nat):Int)=48+((r%10:Nat):Int):=by rw [dig_toNat _ (Nat.mod_lt _ (by decide))]; omega
theorem WAt.grown {w w':World} {A:Option Addr} {c base n:Nat} {e:TypeId} {v:Value} {ws:List Int} {xs:List Value} (h:WAt w A c ws) (ho:w.ownsRow base e 1 v n xs) (he:e≠171) (hg:w.grownBy w' v.ownBlock):WAt w' A c ws:=by
 rcases hv:v.ownBlock with _|g
 ·rw [hv] at hg
  exact h.below ⟨hg.os,hg.tape,hg.output,hg.size,fun k hk=>hg.block k hk (by simp)⟩
 ·rw [hv] at hg
  refine h.keepB (g:=g) ⟨hg.os,hg.tape,hg.output,hg.size,fun k hk hne=>hg.block k hk (fun e=>hne (by injection e))⟩ (fun ad ha e2 => ?_)
  obtain ⟨cs,h1⟩:=h.typ ad ha
  obtain ⟨cs2,h2⟩:=own_typed ho g hv
  rw [e2,h2] at h1
  injection h1 with h1
  injection h1 with _ h1
  exact he h1
theorem bints_snoc (bs:List UInt8) (b:UInt8):bints (bs ++ [b])=bints bs ++ [(b.toNat:Int)]:=by simp [bints]
theorem USt.more {w wr w1:World} {N:Nat} {v v1:Value} {bs:List UInt8} {A:Option Addr} {c:Nat} {us:List Int} {r:Int} {i:Nat} (h:USt w wr N v bs A c us r.toNat i) (hr:0≤r∧r<1000000000) (hi:i<9) (hc:0<us.length∨0<r) (d:Int) (hd:d=48+r%10)
  (ho:w1.ownsRow w.heap.size 5 1 v1 ((bints bs) ++ [d]).length (nums .u8 ((bints bs) ++ [d]))) (hg:(wr.alloc (.cells #[.int .u8 d] 5)).grownBy w1 v.ownBlock) (hb:Below w.heap.size w w1) :
  Hid (USt w w1 N v1 (bs ++ [UInt8.ofNat (48+r.toNat%10)]) A c us (r.tdiv 10).toNat (i+1)):=by
 have e1:d=((UInt8.ofNat (48+r.toNat%10)).toNat:Int):=by
  rw [digit_byte,hd]; omega
 rw [e1,←bints_snoc] at ho
 refine ⟨ho,?_,h.du,h.tu,h.lu,hb,?_,?_⟩
 ·exact (h.wu.below (below_alloc (Below.refl _ _) _)).grown (h.own.alloc _) (by decide) hg
 ·rw [h.eq,show 9-i=(9-(i+1))+1 by omega,left9_more,List.append_assoc]
  ·rw [Int.tdiv_eq_ediv_of_nonneg hr.1,show (r/10).toNat=r.toNat/10 by omega]; rfl
  ·rcases hc with hc|hc
   ·refine Or.inl ?_
    have h1:=val_pos h.du h.tu (by intro e; rw [e] at hc; simp at hc)
    have h2:(0:Int)<4294967296^(us.length-1):=Int.pow_pos (by decide)
    omega
   ·exact Or.inr (by omega)
 ·have h1:=h.rl
  rw [show 9-i=(9-(i+1))+1 by omega,Nat.pow_succ] at h1
  rw [Int.tdiv_eq_ediv_of_nonneg hr.1]
  omega
theorem mod10 {r:Int} (hr:0≤r∧r<1000000000):(48+r.tmod 10)%256=48+r%10:=by
 rw [Int.tmod_eq_emod_of_nonneg hr.1]; omega
theorem div10 {r:Int} (hr:0≤r∧r<1000000000):r.tdiv 10%4294967296=r.tdiv 10∧0≤r.tdiv 10∧r.tdiv 10<1000000000:=by
 rw [Int.tdiv_eq_ediv_of_nonneg hr.1]; omega
theorem USt.done {w wr:World} {N:Nat} {v:Value} {bs:List UInt8} {A:Option Addr} {c:Nat} {us:List Int} {r:Int} {i:Nat} (h:USt w wr N v bs A c us r.toNat i) (hr:0≤r) (hi:i≤9) (hc:i=9∨(¬ 0<us.length∧¬ 0<r)) {n:Nat} (hN:N<2^n) (hn:n≤big):Hid (TSt w wr N v bs A c us):=by
 refine ⟨h.own,h.wu,h.du,h.tu,h.lu,h.below,?_,by have:=h.len hN; unfold big at hn; omega⟩
 rw [h.eq]
 rcases hc with hc|⟨h1,h2⟩
 ·subst hc
  have h1:=h.rl
  rw [left9_zero _ _ (by simpa using h1)]
 ·have hu:us = []:=List.length_eq_zero_iff.1 (by omega)
  subst hu
  rw [show r.toNat=0 by omega,show (val []).toNat=0 from rfl,left9_none]
theorem TSt.less {w w1 wr:World} {N:Nat} {v:Value} {bs:List UInt8} {A A2:Option Addr} {c c2:Nat} {us qs:List Int} {r:Int} (h:TSt w w1 N v bs A c us) (k:WAt wr A2 c2 qs) (dq:Wd qs) (hu:0<us.length) (hv:val us=1000000000*val qs+r) (hr:0≤r):Hid (vmeas (.slice A2 qs.length c2) wr<vmeas (.slice A us.length c) w1):=by
 show _<_
 rw [vmeas_eq k,vmeas_eq h.wu]
 have h1:=val_pos h.du h.tu (by intro e; rw [e] at hu; simp at hu)
 have h2:(0:Int)<4294967296^(us.length-1):=Int.pow_pos (by decide)
 have h3:=val_nonneg dq
 omega
theorem str_bints (bs:List UInt8):strOfNums (bints bs)=⟨bs.toArray⟩:=by
 unfold strOfNums bints
 rw [List.map_map]
 congr 2
 conv=>rhs; rw [←List.map_id bs]
 refine List.map_congr_left fun b _ => ?_
 simp
theorem bints_reverse (bs:List UInt8):(bints bs).reverse=bints bs.reverse:=by simp [bints]
theorem TSt.text {w wr:World} {x:Int} {v:Value} {bs:List UInt8} {A:Option Addr} {c:Nat} {us:List Int} (h:TSt w wr x.natAbs v bs A c us) (hu:¬ 0<us.length) (hx:x≠0):bs.reverse=decl x.natAbs:=by
 have hu:us = []:=List.length_eq_zero_iff.1 (by omega)
 subst hu
 have h1:=h.eq
 rw [show (val []).toNat=0 from rfl,rdig_zero,List.append_nil] at h1
 unfold decl
 rw [if_neg (by omega),h1]
theorem string_calls (b o:Nat) (x:Int) (w:World) (hx:IntAt w b o x) {n:Nat} (hs:Bd n x) (hn:n≤big) :
  Calls Tryz.prog 104 #[.pointer (some ⟨b,o,none⟩)] w fun e w'=>e = .returned (.string (wtext x))∧Below w.heap.size w w':=by
 obtain ⟨neg,A,c,ws,h1,h2,h3,h4⟩:=hx.out
 have hl1:ws.length≤34359738368:=h4.small hs hn
 by_cases h0:0<ws.length
 ·have hne : ((ws.length : Int) == 0) = false := beq_eq_false_iff_ne.2 (by omega)
  go_enter Tryz.func104,Tryz.ntmps104
  go_wp2
  go_loopw [3,4] (fun vb vw wr=>∃ (bs:List UInt8) (Aw:Option Addr) (cw:Nat) (us:List Int),vw = .slice Aw us.length cw∧Hid (TSt w wr x.natAbs vb bs Aw cw us)) (fun _ vw wr=>vmeas vw wr)
  case atStart=>exact ⟨[],A,c,ws,rfl,Lib.hid ⟨⟨rfl,Or.inl ⟨rfl,rfl⟩⟩,h3,h4.wd,h4.top,hl1,Below.refl _ _,by rw [h4.val_eq,Int.toNat_natCast]; rfl,by simp⟩⟩
  case round =>
   obtain ⟨bs,Aw,cw,us,rfl,HT⟩:=hrel
   by_cases hu:0<us.length
   ·go_wp2_with fail
    refine (small_calls Aw cw us 1000000000 _ HT.out.wu HT.out.du (by decide) (by decide) (by have:=HT.out.lu; omega)).mono ?_
    rintro e w1 ⟨A2,c2,zs,r,rfl,hw2,hz2,hzl,hs0,hs1,hv,hb2⟩
    have HV:=Lib.hid hv
    have HB2:=Lib.hid hb2
    have HZL:=Lib.hid hzl
    clear hv hb2 hzl
    go_wp2_with fail
    refine (trim_calls A2 c2 zs _ hw2 hz2).mono ?_
    rintro e w3 ⟨n,rfl,hcut,rfl⟩
    have HU0:=Lib.hid (show USt w w1 x.natAbs u3 bs A2 c2 (zs.take n) r.toNat 0 from ⟨own_below HT.out.own HB2.out,hw2.take n hcut.le,hz2.take n,hcut.top,by rw [List.length_take]; have:=HT.out.lu; have:=HZL.out; omega,bthen HT.out.below HB2.out,by
     rw [HT.out.eq,←left9_start _ _ (by omega)]
     have h1:=HV.out
     have h2:=hcut.eq
     have h3:=val_nonneg hz2
     rw [show (val us).toNat=(val (zs.take n)).toNat*1000000000+r.toNat by rw [h2]; omega],by show r.toNat<10^9; omega⟩)
    have HVQ:=Lib.hid (show val us=1000000000*val (zs.take n)+r by rw [hcut.eq]; exact HV.out)
    have hln:n=(zs.take n).length:=by rw [List.length_take]; have:=hcut.le; omega
    have HLN:=Lib.hid hln
    have HS1:=Lib.hid (And.intro hs0 hs1)
    clear hln HV HB2 HZL hw2 hz2 hcut hs0 hs1
    generalize hzn:zs.take n=qs at *
    clear hzn
    rw [HLN.out]
    clear HLN
    go_wp2
    go_loopw [3,6,7] (fun vb vr vi wr'=>∃ (bs':List UInt8) (i:Nat) (R':Int),i≤9∧Hid (0≤R'∧R'<1000000000)∧vr = .int .u32 R'∧vi = .int .i64 i∧Hid (USt w wr' x.natAbs vb bs' A2 c2 qs R'.toNat i)) (fun _ _ vi _=>9-(intOf vi).toNat)
    case atStart=>exact ⟨bs,0,r,by omega,HS1,rfl,by go_num,HU0⟩
    case round =>
     obtain ⟨bs',i,R',hi9,hR9,rfl,rfl,HU⟩:=hrel
     obtain ⟨A8,c8,rfl,hr8⟩:=own_reads HU.out.own
     clear hr8
     by_cases hi:i<9
     ·have hiI:(i:Int)<9:=by omega
      by_cases hq:0<qs.length
      ·have hqI:(0:Int)<(qs.length:Int):=by omega
       have hrow:=HU.out.own.alloc (.cells #[.int .u8 ((48+R'.tmod 10)%256)] 5)
       have HRW:=Lib.hid hrow
       have hlit:=own_lit wr wr.heap.size 5 .u8 [(48+R'.tmod 10)%256] (Nat.le_refl _) (by simp)
       have HRL:=Lib.hid (own_reads' hlit)
       have hbw:=bthen HU.out.below (below_alloc (Below.refl wr.heap.size wr) (.cells #[.int .u8 ((48+R'.tmod 10)%256)] 5))
       have HBW:=Lib.hid hbw
       have hsb:=hbw.size
       have hll:((bints bs').length+1)*1≤140737488355328:=by have:=HU.out.len hs; unfold big at hn; unfold bints; rw [List.length_map]; omega
       clear hrow hlit hbw
       go_wp2_with (at_builtin; refine print_append_row w.heap.size rfl _ _ 95 5 .u8 1 rfl Tryz.underlying95 infoU8 (by decide) (.slice A8 (bints bs').length c8) (bints bs') [(48+R'.tmod 10)%256] (some ⟨wr.heap.size,0,none⟩) 1 1 rfl rfl HRW.out HRL.out HBW.out hsb hll ?_; intro v1 w1 hown hb hg hat)
       have HU2:=HU.out.more hR9.out hi (Or.inl hq) _ (mod10 hR9.out) hown hg hb
       have HDV:=Lib.hid (div10 hR9.out)
       clear hown hg hat
       go_wp2
       go_roundw
       case rel=>exact ⟨_,i+1,R'.tdiv 10,by omega,HDV.out.2,congrArg (Value.int .u32) HDV.out.1,by go_num,HU2⟩
       case measure=>simp [intOf]; omega
      ·have hqI:¬ (0:Int)<(qs.length:Int):=by omega
       by_cases hR:0<R'
       ·skip
        have hrow:=HU.out.own.alloc (.cells #[.int .u8 (48+R'%10)] 5)
        have HRW:=Lib.hid hrow
        have hlit:=own_lit wr wr.heap.size 5 .u8 [48+R'%10] (Nat.le_refl _) (by simp)
        have HRL:=Lib.hid (own_reads' hlit)
        have hbw:=bthen HU.out.below (below_alloc (Below.refl wr.heap.size wr) (.cells #[.int .u8 (48+R'%10)] 5))
        have HBW:=Lib.hid hbw
        have hsb:=hbw.size
        have hll:((bints bs').length+1)*1≤140737488355328:=by have:=HU.out.len hs; unfold big at hn; unfold bints; rw [List.length_map]; omega
        clear hrow hlit hbw
        go_wp2_with (at_builtin; refine print_append_row w.heap.size rfl _ _ 95 5 .u8 1 rfl Tryz.underlying95 infoU8 (by decide) (.slice A8 (bints bs').length c8) (bints bs') [48+R'%10] (some ⟨wr.heap.size,0,none⟩) 1 1 rfl rfl HRW.out HRL.out HBW.out hsb hll ?_; intro v1 w1 hown hb hg hat)
        have HU2:=HU.out.more hR9.out hi (Or.inr hR) _ rfl hown hg hb
        have HDV:=Lib.hid (div10 hR9.out)
        clear hown hg hat
        go_wp2
        go_roundw
        case rel=>exact ⟨_,i+1,R'.tdiv 10,by omega,HDV.out.2,congrArg (Value.int .u32) HDV.out.1,by go_num,HU2⟩
        case measure=>simp [intOf]; omega
       ·skip
        have HT2:=HU.out.done hR9.out.1 hi9 (Or.inr ⟨hq,hR⟩) hs hn
        have HM:=HT.out.less HU.out.wu HU.out.du hu HVQ.out HS1.out.1
        go_wp2
        go_roundw
        case rel=>exact ⟨bs',A2,c2,qs,rfl,HT2⟩
        case measure=>exact HM.out
     ·have hiI:¬ (i:Int)<9:=by omega
      skip
      have HT2:=HU.out.done hR9.out.1 hi9 (Or.inl (by omega)) hs hn
      have HM:=HT.out.less HU.out.wu HU.out.du hu HVQ.out HS1.out.1
      go_wp2
      go_roundw
      case rel=>exact ⟨bs',A2,c2,qs,rfl,HT2⟩
      case measure=>exact HM.out
   ·have h1':=bcell HT.out.below h1
    have hx0:x≠0:=fun e=>by have:=h4.nil_iff.2 e; subst this; simp at h0
    have HTX:=Lib.hid (HT.out.text hu hx0)
    have hng:=h4.neg_iff
    have HNG:=Lib.hid hng
    have HLB:=Lib.hid HT.out.len
    clear hng hx0
    cases neg
    ·obtain ⟨A9,c9,rfl,hr9⟩:=own_reads HT.out.own
     clear hr9
     go_wp2_with fail
     refine (rev_calls (.slice A9 (bints bs).length c9) (bints bs) w _ HT.out.below HT.out.own (by have:=HT.out.len; unfold bints; rw [List.length_map]; omega)).mono ?_
     rintro e w5 ⟨rfl,ho5,hb5⟩
     have hcv:=own_string (P:=Tryz.prog) Tryz.underlying95 Tryz.underlying5 Tryz.underlying9 ho5
     go_wp2
     go_ret
     refine ⟨?_,hb5⟩
     have:strOfNums (bints bs).reverse=wtext x:=by
      rw [bints_reverse,str_bints,HTX.out]
      unfold wtext
      rw [if_neg (fun h=>by have:=HNG.out.2 h; revert this; simp)]; rfl
     exact congrArg (fun v=>Ending.returned (.string v)) this
    ·obtain ⟨A9,c9,rfl,hr9⟩:=own_reads HT.out.own
     clear hr9
     have hrow:=HT.out.own.alloc (.cells #[.int .u8 45] 5)
     have HRW:=Lib.hid hrow
     have hlit:=own_lit wr wr.heap.size 5 .u8 [45] (Nat.le_refl _) (by simp)
     have HRL:=Lib.hid (own_reads' hlit)
     have hbw:=bthen HT.out.below (below_alloc (Below.refl wr.heap.size wr) (.cells #[.int .u8 45] 5))
     have HBW:=Lib.hid hbw
     have hsb:=hbw.size
     have hll:((bints bs).length+1)*1≤140737488355328:=by have:=HLB.out; unfold bints; rw [List.length_map]; omega
     clear hrow hlit hbw
     go_wp2_with (at_builtin; refine print_append_row w.heap.size rfl _ _ 95 5 .u8 1 rfl Tryz.underlying95 infoU8 (by decide) (.slice A9 (bints bs).length c9) (bints bs) [45] (some ⟨wr.heap.size,0,none⟩) 1 1 rfl rfl HRW.out HRL.out HBW.out hsb hll ?_; intro v1 w1 hown hb hg hat)
     clear hg hat
     have hown2:w1.ownsRow w.heap.size 5 1 v1 (bints (bs ++ [45])).length (nums .u8 (bints (bs ++ [45]))):=by rw [bints_snoc]; exact hown
     have HO2:=Lib.hid hown2
     clear hown hown2
     obtain ⟨A7,c7,rfl,hr7⟩:=own_reads HO2.out
     clear hr7
     go_wp2_with fail
     refine (rev_calls (.slice A7 (bints (bs ++ [45])).length c7) (bints (bs ++ [45])) w _ hb HO2.out (by have:=HLB.out; unfold bints; rw [List.length_map,List.length_append]; simp; omega)).mono ?_
     rintro e w5 ⟨rfl,ho5,hb5⟩
     have hcv:=own_string (P:=Tryz.prog) Tryz.underlying95 Tryz.underlying5 Tryz.underlying9 ho5
     go_wp2
     go_ret
     refine ⟨?_,hb5⟩
     have:strOfNums (bints (bs ++ [45])).reverse=wtext x:=by
      rw [bints_reverse,str_bints,List.reverse_append,HTX.out]
      unfold wtext
      rw [if_pos (HNG.out.1 (by first|rfl|trivial))]; rfl
     exact congrArg (fun v=>Ending.returned (.string v)) this
 ·have hws:ws = []:=List.length_eq_zero_iff.1 (by omega)
  subst hws
  have hx0:x=0:=h4.nil_iff.1 rfl
  subst hx0
  clear h4 h0
  go_enter Tryz.func104,Tryz.ntmps104
  go_wp2
  go_ret
  exact ⟨rfl,Below.refl _ _⟩
end Go.Proofs.YtglaeambknhjlaaGreatDoor.P
end
