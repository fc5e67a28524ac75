/- Texts under the proof, joined by a program (prune.py): P110, STimes, QRef, QRef2, P117, QRef3, P100, SLess. -/
import Derived.Test.YtglaeambknhjlaaGreatDoorCShowReads02
import Derived.Test.YtglaeambknhjlaaGreatDoorCShowReads08
import Derived.Test.YtglaeambknhjlaaGreatDoorCShowReads10
import Derived.Test.YtglaeambknhjlaaGreatDoorCShowReads09
set_option linter.unusedVariables false
set_option linter.unusedSimpArgs false
set_option exponentiation.threshold 20001
set_option maxHeartbeats 8000000
set_option maxRecDepth 100000
section
namespace Go.Proofs.ZP
open Go.RowKit Go.Proofs.ZW.Wa Go.Proofs.ZW.Wb Go.Proofs.ZW.Wc
attribute [local go_sem] zaC zaB zaM zaL zaz zay zaF zaE
def c1_Times.f (k:Nat) (a0:ByteArray) (a1:ByteArray):Option (ByteArray):=(c1_limbs.f k a0).bind fun t331=>((c1_limbs.f k a1).bind fun t334=>((c1_times.f k t331 t334).bind fun t337=>((c1_text.f t337).bind fun t340=>(some t340))))
theorem c1_Times.calls (k:Nat) (a0:ByteArray) (a1:ByteArray) (r:ByteArray) (w:World) (h:c1_Times.f k a0 a1=some r) :
  Calls Tryz.prog 131 #[.string a0,.string a1] w fun e w'=>e = .returned (.string r)∧Below w.heap.size w w':=by
 have HB:=Aside0.mk (Below.refl w.heap.size w)
 have H:((c1_limbs.f k a0).bind fun t331=>((c1_limbs.f k a1).bind fun t334=>((c1_times.f k t331 t334).bind fun t337=>((c1_text.f t337).bind fun t340=>(some t340)))))=some r:=h
 clear h
 replace H:=Option.bind_eq_some_iff.mp H
 obtain ⟨t331,A30,H⟩:=H
 replace H:((c1_limbs.f k a1).bind fun t334=>((c1_times.f k t331 t334).bind fun t337=>((c1_text.f t337).bind fun t340=>(some t340))))=some r:=H
 have A3:=Aside0.mk A30
 clear A30
 replace H:=Option.bind_eq_some_iff.mp H
 obtain ⟨t334,A40,H⟩:=H
 replace H:((c1_times.f k t331 t334).bind fun t337=>((c1_text.f t337).bind fun t340=>(some t340)))=some r:=H
 have A4:=Aside0.mk A40
 clear A40
 replace H:=Option.bind_eq_some_iff.mp H
 obtain ⟨t337,A50,H⟩:=H
 replace H:((c1_text.f t337).bind fun t340=>(some t340))=some r:=H
 have A5:=Aside0.mk A50
 clear A50
 replace H:=Option.bind_eq_some_iff.mp H
 obtain ⟨t340,A60,H⟩:=H
 replace H:(some t340)=some r:=H
 have A6:=Aside0.mk A60
 clear A60
 obtain rfl:=Option.some.inj H
 go_enter Tryz.func131,Tryz.ntmps131
 go_wp2_with (first|((with_reducible refine zav (f:=203) rfl ?_); refine za5 (some 6) rfl rfl Tryz.func203 (by kernel_rfl) rfl #[.string a0] rfl (by (try simp only [List.map_toArray,List.map_cons,List.map_nil]); first|done|rfl|(simp only [List.length_drop,List.length_take]; rfl)) ?_; (with_reducible refine (c1_limbs.calls k a0 t331 _ A3.out).mono ?_); rintro e w7 ⟨v332,rfl,ho0,hb⟩; refine ⟨_,rfl,?_⟩; have n0_:=Aside0.mk (Kd.V_lower (Kd.V_mono (ok':=fun k_=>True) ho0 (fun k_ hk_=>trivial)) (zal (by repeat (first|(with_reducible first|exact HB.out|apply zaa|apply zab|apply zac)|exact HB.out)))); have n1_:=Aside0.mk (zam (by repeat (first|(with_reducible first|exact HB.out|apply zaa|apply zab|apply zac)|exact HB.out)) hb); clear HB; have HO333:=n0_; have HB:=n1_; clear n0_ n1_; (try clear hb); (try clear hb2); (try clear hk); (try clear hi); (try clear ho0))|((with_reducible refine zav (f:=203) rfl ?_); refine za5 (some 8) rfl rfl Tryz.func203 (by kernel_rfl) rfl #[.string a1] rfl (by (try simp only [List.map_toArray,List.map_cons,List.map_nil]); first|done|rfl|(simp only [List.length_drop,List.length_take]; rfl)) ?_; (with_reducible refine (c1_limbs.calls k a1 t334 _ A4.out).mono ?_); rintro e w8 ⟨v335,rfl,ho0,hb⟩; refine ⟨_,rfl,?_⟩; have n0_:=Aside0.mk (Kd.V_below (by (with_reducible repeat (first|apply Kd.V_alloc|apply Kd.V_drewN|apply Kd.V_drew)); exact HO333.out) hb); have n1_:=Aside0.mk (Kd.V_lower (Kd.V_mono (ok':=fun k_=>True) ho0 (fun k_ hk_=>trivial)) (zal (by repeat (first|(with_reducible first|exact HB.out|apply zaa|apply zab|apply zac)|exact HB.out)))); have n2_:=Aside0.mk (zam (by repeat (first|(with_reducible first|exact HB.out|apply zaa|apply zab|apply zac)|exact HB.out)) hb); clear HO333; clear HB; have HO333:=n0_; have HO336:=n1_; have HB:=n2_; clear n0_ n1_ n2_; (try clear hb); (try clear hb2); (try clear hk); (try clear hi); (try clear ho0); obtain ⟨Ao9,co9,eo9⟩:=Kd.V_slice HO333.out; subst eo9; obtain ⟨Ao10,co10,eo10⟩:=Kd.V_slice HO336.out; subst eo10)|((with_reducible refine zav (f:=209) rfl ?_); refine za5 (some 9) rfl rfl Tryz.func209 (by kernel_rfl) rfl #[.slice Ao9 t331.length co9,.slice Ao10 t334.length co10] rfl (by (try simp only [List.map_toArray,List.map_cons,List.map_nil]); first|done|rfl|(simp only [List.length_drop,List.length_take]; rfl)) ?_; (with_reducible refine (c1_times.calls k _ _ t331 _ _ t334 t337 _ ?side1 ?side2 ?side3 ?side4 A5.out).mono ?_); (case side1=>repeat (first|exact (Kd.V_reads' HO333.out).2.2|(with_reducible refine Kd.C_alloc ?_ _)|(with_reducible refine Kd.C_drewN ?_ _)|(with_reducible refine Kd.C_drew ?_))); (case side2=>exact (Kd.V_reads' HO333.out).2.1); (case side3=>repeat (first|exact (Kd.V_reads' HO336.out).2.2|(with_reducible refine Kd.C_alloc ?_ _)|(with_reducible refine Kd.C_drewN ?_ _)|(with_reducible refine Kd.C_drew ?_))); (case side4=>exact (Kd.V_reads' HO336.out).2.1); rintro e w11 ⟨v338,rfl,ho0,hb⟩; refine ⟨_,rfl,?_⟩; have n0_:=Aside0.mk (Kd.V_below (by (with_reducible repeat (first|apply Kd.V_alloc|apply Kd.V_drewN|apply Kd.V_drew)); exact HO333.out) hb); have n1_:=Aside0.mk (Kd.V_below (by (with_reducible repeat (first|apply Kd.V_alloc|apply Kd.V_drewN|apply Kd.V_drew)); exact HO336.out) hb); have n2_:=Aside0.mk (Kd.V_lower (Kd.V_mono (ok':=fun k_=>True) ho0 (fun k_ hk_=>trivial)) (zal (by repeat (first|(with_reducible first|exact HB.out|apply zaa|apply zab|apply zac)|exact HB.out)))); have n3_:=Aside0.mk (zam (by repeat (first|(with_reducible first|exact HB.out|apply zaa|apply zab|apply zac)|exact HB.out)) hb); clear HO333; clear HO336; clear HB; have HO333:=n0_; have HO336:=n1_; have HO339:=n2_; have HB:=n3_; clear n0_ n1_ n2_ n3_; (try clear hb); (try clear hb2); (try clear hk); (try clear hi); (try clear ho0); obtain ⟨Ao12,co12,eo12⟩:=Kd.V_slice HO339.out; subst eo12)|((with_reducible refine zav (f:=207) rfl ?_); refine za5 (some 10) rfl rfl Tryz.func207 (by kernel_rfl) rfl #[.slice Ao12 t337.length co12] rfl (by (try simp only [List.map_toArray,List.map_cons,List.map_nil]); first|done|rfl|(simp only [List.length_drop,List.length_take]; rfl)) ?_; (with_reducible refine (c1_text.calls _ _ t337 t340 _ ?side1 ?side2 A6.out).mono ?_); (case side1=>repeat (first|exact (Kd.V_reads' HO339.out).2.2|(with_reducible refine Kd.C_alloc ?_ _)|(with_reducible refine Kd.C_drewN ?_ _)|(with_reducible refine Kd.C_drew ?_))); (case side2=>exact (Kd.V_reads' HO339.out).2.1); rintro e w13 ⟨rfl,hb⟩; refine ⟨_,rfl,?_⟩; have n0_:=Aside0.mk (Kd.V_below (by (with_reducible repeat (first|apply Kd.V_alloc|apply Kd.V_drewN|apply Kd.V_drew)); exact HO333.out) hb); have n1_:=Aside0.mk (Kd.V_below (by (with_reducible repeat (first|apply Kd.V_alloc|apply Kd.V_drewN|apply Kd.V_drew)); exact HO336.out) hb); have n2_:=Aside0.mk (Kd.V_below (by (with_reducible repeat (first|apply Kd.V_alloc|apply Kd.V_drewN|apply Kd.V_drew)); exact HO339.out) hb); have n3_:=Aside0.mk (zam (by repeat (first|(with_reducible first|exact HB.out|apply zaa|apply zab|apply zac)|exact HB.out)) hb); clear HO333; clear HO336; clear HO339; clear HB; have HO333:=n0_; have HO336:=n1_; have HO339:=n2_; have HB:=n3_; clear n0_ n1_ n2_ n3_; (try clear hb); (try clear hb2); (try clear hk); (try clear hi)))
 go_ret
 exact ⟨by first|rfl|(simp [zao,zan]<;>rfl)|(simp [*,zao,zan]<;>rfl),by repeat (first|(with_reducible first|exact HB.out|apply zaa|apply zab|apply zac)|exact HB.out)⟩
end Go.Proofs.ZP
end
section
namespace Go.Proofs.ZP
open Go.RowKit Go.Proofs.ZW.Wa
theorem lv_take_succ (xs:List Int) {i:Nat} (h:i<xs.length):lv (xs.take (i+1))=lv (xs.take i)+10000^i*rd xs (i:Int):=by
 rw [List.take_succ_eq_append_getElem h,zco,List.length_take,Nat.min_eq_left (by omega),rd_lt h]
 simp [lv]
theorem zcw (i:Nat):(0:Int)<10000^i:=Int.pow_pos (by decide)
theorem pow4_lt {i j:Nat} (h:(10000:Int)^i<10000^j):i<j:=by
 apply Classical.byContradiction
 intro hn
 have h1:(10000:Nat)^j≤10000^i:=Nat.pow_le_pow_right (by decide) (by omega)
 have h2:((10000^j:Nat):Int)≤((10000^i:Nat):Int):=Int.ofNat_le.2 h1
 rw [Int.natCast_pow,Int.natCast_pow] at h2
 have h3:((10000:Nat):Int)^i<((10000:Nat):Int)^j:=h
 omega
theorem prod_lt {xs ys:List Int} (hx:Ld xs) (hy:Ld ys) (i:Nat) (hi:i≤xs.length):lv (xs.take i)*lv ys<10000^(xs.length+ys.length):=by
 have h1:=lv_lt (hx.take i)
 have h2:=lv_lt hy
 have h3:=za4 (hx.take i)
 have h4:=za4 hy
 rw [List.length_take,Nat.min_eq_left hi] at h1
 have h5:(10000:Int)^i≤10000^xs.length:=by
  have h6:(10000:Nat)^i≤10000^xs.length:=Nat.pow_le_pow_right (by decide) hi
  have h7:=Int.ofNat_le.2 h6
  rw [Int.natCast_pow,Int.natCast_pow] at h7
  exact h7
 rw [Int.pow_add]
 have h8:=zcw xs.length
 have h9:=zcw ys.length
 calc lv (xs.take i)*lv ys≤lv (xs.take i)*10000^ys.length:=Int.mul_le_mul_of_nonneg_left (Int.le_of_lt h2) h3
  _<10000^xs.length*10000^ys.length:=Int.mul_lt_mul_of_pos_right (by omega) h9
theorem times_alg (L P s q o x y D:Int):L+P*(s-o)+P*10000*q+P*10000*(x*D)=L+P*(s+10000*q-o-x*y)+P*(x*(y+10000*D)):=by grind
theorem l1_step (k:Nat) (xs ys out:List Int) (i j:Nat) (c:Int) (h1:j<ys.length) (h2:i+j<out.length) (h3:i<xs.length) (hs:out.length≤1099511627776) (hc:0≤c∧c<10000) (ho:0≤rd out ((i+j:Nat):Int)∧rd out ((i+j:Nat):Int)<10000) (hM:0≤rd xs (i:Int)*rd ys (j:Int)∧rd xs (i:Int)*rd ys (j:Int)≤9999*9999) :
  c1_times.l1 (k+1) xs ys out (i:Int) c (j:Int)=c1_times.l1 k xs ys (out.set (i+j) ((c+rd out ((i+j:Nat):Int)+rd xs (i:Int)*rd ys (j:Int))%10000)) (i:Int) ((c+rd out ((i+j:Nat):Int)+rd xs (i:Int)*rd ys (j:Int))/10000) ((j+1:Nat):Int):=by
 have eij:wrap64 ((i:Int)+(j:Int))=((i+j:Nat):Int):=by rw [w64' (by omega) (by omega)]; rfl
 have g1:(j:Int)<(ys.length:Int):=Int.ofNat_lt.2 h1
 have g2:(0:Int)≤((i+j:Nat):Int):=Int.natCast_nonneg _
 have g3:((i+j:Nat):Int)<(out.length:Int):=Int.ofNat_lt.2 h2
 have g4:(0:Int)≤(i:Int):=Int.natCast_nonneg _
 have g5:(i:Int)<(xs.length:Int):=Int.ofNat_lt.2 h3
 have g6:(0:Int)≤(j:Int):=Int.natCast_nonneg _
 have e7:wrap64 ((j:Int)+1)=((j+1:Nat):Int):=by rw [w64' (by omega) (by omega)]; rfl
 rw [c1_times.l1,if_pos g1,eij,if_pos g2,if_pos g3,if_pos g4,if_pos g5,if_pos g6,Int.toNat_natCast,e7]
 clear g1 g2 g3 g4 g5 g6 e7 eij h1 h2 h3 hs
 generalize rd xs (i:Int)*rd ys (j:Int)=M at *
 generalize rd out ((i+j:Nat):Int)=o at *
 have e1:wrap64 M=M:=w64' (by omega) (by omega)
 have e2:wrap64 (c+o)=c+o:=w64' (by omega) (by omega)
 have e3:wrap64 (c+o+M)=c+o+M:=w64' (by omega) (by omega)
 have e4:(c+o+M).tmod 10000=(c+o+M)%10000:=Int.tmod_eq_emod_of_nonneg (by omega)
 have e5:(c+o+M).tdiv 10000=(c+o+M)/10000:=Int.tdiv_eq_ediv_of_nonneg (by omega)
 have e6:wrap64 ((c+o+M)/10000)=(c+o+M)/10000:=w64' (by omega) (by omega)
 rw [e1,e2,e3,e4,e5,e6]
section
variable (xs ys:List Int) (hx:Ld xs) (hy:Ld ys) (hl:xs.length+ys.length≤1099511627776)
include hx hy hl
theorem times_l2 (i:Nat) (hi:i<xs.length) (r:List Int) (hr:∀ out,Ld out→out.length=xs.length+ys.length→lv out=lv (xs.take (i+1))*lv ys→Ev (fun k=>c1_times.l0 k xs ys out ((i+1:Nat):Int)) r) :
  ∀ (d kk:Nat) (out:List Int) (c:Int),Ld out→out.length=xs.length+ys.length→0≤c→c<10000→kk≤xs.length+ys.length→kk+d=xs.length+ys.length+1→lv out+10000^kk*c=lv (xs.take (i+1))*lv ys →
   Ev (fun k=>c1_times.l2 k xs ys out (i:Int) c (kk:Int)) r:=by
 intro d
 induction d with
 | zero=>intro kk out c _ _ _ _ h1 h2; omega
 | succ d ih =>
  intro kk out c hod hol hc0 hc1 hkk hd hv
  by_cases hc:0<c
  ·have hlt:=prod_lt hx hy (i+1) (by omega)
   have ho:=za4 hod
   have hp:=zcw kk
   have h1:(10000:Int)^kk*1≤10000^kk*c:=Int.mul_le_mul_of_nonneg_left (by omega) (by omega)
   have hk:kk<xs.length+ys.length:=pow4_lt (by omega)
   have hrd:=hod.rd (kk:Int)
   have hs:=ih (kk+1) (out.set kk ((c+rd out (kk:Int))%10000)) ((c+rd out (kk:Int))/10000) (hod.set _ (by omega) (by omega)) (by rw [List.length_set]; exact hol) (by omega) (by omega) (by omega) (by omega) (by
    rw [lv_set _ (by omega),←hv,Int.pow_succ]
    have e:=Int.emod_add_mul_ediv (c+rd out (kk:Int)) 10000
    generalize (c+rd out (kk:Int))%10000=s at *
    generalize (c+rd out (kk:Int))/10000=q at *
    have e2:c=s+10000*q-rd out (kk:Int):=by omega
    rw [e2]; grind)
   refine Ev.step (fun k => ?_) hs
   simp only [c1_times.l2]
   rw [if_pos (by omega),if_pos (by omega),if_pos (by omega),w64' (x:=c+rd out (kk:Int)) (by omega) (by omega),Int.tmod_eq_emod_of_nonneg (by omega),Int.tdiv_eq_ediv_of_nonneg (by omega),w64' (by omega) (by omega),w64' (by omega) (by omega),Int.toNat_natCast]
   rfl
  ·have:c=0:=by omega
   subst this
   rw [Int.mul_zero,Int.add_zero] at hv
   refine Ev.step (fun k => ?_) (hr out hod hol hv)
   simp only [c1_times.l2]
   rw [if_neg (by omega),w64' (by omega) (by omega)]
   rfl
theorem times_l1 (i:Nat) (hi:i<xs.length) (r:List Int) (hr:∀ out,Ld out→out.length=xs.length+ys.length→lv out=lv (xs.take (i+1))*lv ys→Ev (fun k=>c1_times.l0 k xs ys out ((i+1:Nat):Int)) r) :
  ∀ (d j:Nat) (out:List Int) (c:Int),Ld out→out.length=xs.length+ys.length→0≤c→c<10000→j+d=ys.length→lv out+10000^(i+j)*c+10000^(i+j)*(rd xs (i:Int)*lv (ys.drop j))=lv (xs.take (i+1))*lv ys →
   Ev (fun k=>c1_times.l1 k xs ys out (i:Int) c (j:Int)) r:=by
 intro d
 induction d with
 | zero =>
  intro j out c hod hol hc0 hc1 hd hv
  have hj:j=ys.length:=by omega
  subst hj
  rw [List.drop_length,show lv []=0 from rfl,Int.mul_zero,Int.mul_zero,Int.add_zero] at hv
  refine Ev.step (fun k => ?_) (times_l2 xs ys hx hy hl i hi r hr (xs.length+ys.length+1-(i+ys.length)) (i+ys.length) out c hod hol hc0 hc1 (by omega) (by omega) hv)
  simp only [c1_times.l1]
  rw [if_neg (by omega),w64' (by omega) (by omega)]
  rfl
 | succ d ih =>
  intro j out c hod hol hc0 hc1 hd hv
  have hj:j<ys.length:=by omega
  have hrd:=hod.rd ((i+j:Nat):Int)
  have hxi:=hx.rd (i:Int)
  have hyj:=hy.rd (j:Int)
  have hm0:0≤rd xs (i:Int)*rd ys (j:Int):=Int.mul_nonneg hxi.1 hyj.1
  have hm1:rd xs (i:Int)*rd ys (j:Int)≤9999*9999:=by
   calc rd xs (i:Int)*rd ys (j:Int)≤rd xs (i:Int)*9999:=Int.mul_le_mul_of_nonneg_left (by omega) hxi.1
    _≤9999*9999:=Int.mul_le_mul_of_nonneg_right (by omega) (by decide)
  have dy:=lv_drop ys j
  rw [show rz ys j=rd ys (j:Int) from if_pos hj] at dy
  have hs:=ih (j+1) (out.set (i+j) ((c+rd out ((i+j:Nat):Int)+rd xs (i:Int)*rd ys (j:Int))%10000)) ((c+rd out ((i+j:Nat):Int)+rd xs (i:Int)*rd ys (j:Int))/10000) (hod.set _ (by omega) (by omega)) (by rw [List.length_set]; exact hol) (by omega) (by omega) (by omega) (by
   rw [lv_set _ (by omega),←hv,show i+(j+1)=(i+j)+1 by omega,Int.pow_succ,dy]
   have e:=Int.emod_add_mul_ediv (c+rd out ((i+j:Nat):Int)+rd xs (i:Int)*rd ys (j:Int)) 10000
   generalize (c+rd out ((i+j:Nat):Int)+rd xs (i:Int)*rd ys (j:Int))%10000=s at *
   generalize (c+rd out ((i+j:Nat):Int)+rd xs (i:Int)*rd ys (j:Int))/10000=q at *
   generalize rd out ((i+j:Nat):Int)=o at *
   generalize rd xs (i:Int)=x at *
   generalize rd ys (j:Int)=y at *
   have e2:c=s+10000*q-o-x*y:=by omega
   rw [e2]; exact times_alg _ _ _ _ _ _ _ _)
  have eij:wrap64 ((i:Int)+(j:Int))=((i+j:Nat):Int):=by rw [w64' (by omega) (by omega)]; rfl
  refine Ev.step (fun k => ?_) hs
  exact l1_step k xs ys out i j c hj (by rw [hol]; exact Nat.add_lt_add hi hj) hi (by rw [hol]; exact hl) ⟨hc0,hc1⟩ hrd ⟨hm0,hm1⟩
theorem times_l0:∀ (d i:Nat) (out:List Int),Ld out→out.length=xs.length+ys.length→i+d=xs.length→lv out=lv (xs.take i)*lv ys →
  Ev (fun k=>c1_times.l0 k xs ys out (i:Int)) (lim (lv xs*lv ys).toNat):=by
 intro d
 induction d with
 | zero =>
  intro i out hod hol hd hv
  have hi:i=xs.length:=by omega
  subst hi
  rw [List.take_length] at hv
  have ht:=trim_ev out.length out rfl (by omega) hod
  rw [hv] at ht
  refine Ev.step (f:=fun k=>(c1_trim.f k out).bind fun t275=>(some t275)) (fun k => ?_) (Ev.bind ht (Ev.now _))
  simp only [c1_times.l0]
  rw [if_neg (by omega)]
 | succ d ih =>
  intro i out hod hol hd hv
  have hi:i<xs.length:=by omega
  refine Ev.step (fun k => ?_) (times_l1 xs ys hx hy hl i hi _ (fun out' h1 h2 h3=>ih (i+1) out' h1 h2 (by omega) h3) ys.length 0 out 0 hod hol (by decide) (by decide) (by omega) ?_)
  ·simp only [c1_times.l0]
   rw [if_pos (by omega)]
   rfl
  ·rw [hv,lv_take_succ xs hi,Nat.add_zero,List.drop_zero,Int.mul_zero,Int.add_zero]
   grind
theorem times_spec:Ev (fun k=>c1_times.f k xs ys) (lim (lv xs*lv ys).toNat):=by
 have h:=times_l0 xs ys hx hy hl xs.length 0 (List.replicate (xs.length+ys.length) 0) (Ld.zeros _) (by simp) (by omega) (by rw [lv_zeros,List.take_zero]; simp [lv])
 refine Ev.congr (fun k => ?_) h
 unfold c1_times.f
 have e:wrap64 ((xs.length:Int)+(ys.length:Int))=((xs.length+ys.length:Nat):Int):=by rw [w64' (by omega) (by omega)]; rfl
 rw [e,if_pos (by omega),Int.toNat_natCast,if_pos (by omega)]
 rfl
end
theorem times_ev {a b:Nat} (ha:Fine a) (hb:Fine b) (hc:Fine (a*b)):Ev (fun k=>c1_Times.f k (T a) (T b)) (T (a*b)):=by
 unfold c1_Times.f
 have h:=times_spec (lim a) (lim b) (zch a) (zch b) (by have:=ha.lim; have:=hb.lim; omega)
 rw [zbL,zbL,show ((a:Int)*(b:Int)).toNat=a*b by rw [←Int.natCast_mul,Int.toNat_natCast]] at h
 refine Ev.bind (limbs_T a (by unfold Fine at ha; omega)) (Ev.bind (limbs_T b (by unfold Fine at hb; omega)) (Ev.bind h ?_))
 simp only [zdi (a*b) (by have:=hc.lim; omega),Option.bind_some]
 exact Ev.now _
end Go.Proofs.ZP
end
section
namespace Go.Proofs.ZQ
open Go.RowKit Go.Proofs.ZW.Wa Go.Proofs.ZP
def c1_Right.f (a0:ByteArray):Option Bool:=some (rightB a0)
theorem c1_Right.calls (a0:ByteArray) (r:Bool) (w:World) (h:c1_Right.f a0=some r) :
  Calls Tryz.prog 94 #[.string a0] w fun e w'=>e = .returned (.bool r)∧Below w.heap.size w w':=by
 obtain rfl:=Option.some.inj h
 obtain ⟨k,hk⟩:=(ref_right_ev a0).rounds
 exact (ZP.c1_Right.calls k a0 _ w hk).mono fun e w' ⟨he,hd⟩=>⟨he,zcc hd⟩
def c1_Of.f (a0:Int):Option ByteArray:=if 0≤a0∧a0<18446744073709551616 then some (T a0.toNat) else none
theorem c1_Of.calls (a0:Int) (r:ByteArray) (w:World) (h:c1_Of.f a0=some r) :
  Calls Tryz.prog 148 #[.int .u64 a0] w fun e w'=>e = .returned (.string r)∧Below w.heap.size w w':=by
 unfold c1_Of.f at h
 split at h
 ·rename_i hc
  obtain rfl:=Option.some.inj h
  obtain ⟨n,rfl⟩:=Int.eq_ofNat_of_zero_le hc.1
  obtain ⟨k,hk⟩:=(of_tells n (by omega)).rounds
  rw [Int.toNat_natCast]
  exact ZP.c1_Of.calls k n _ w hk
 ·cases h
def numT (s:ByteArray):Option Nat:=if ZP.Can s.data.toList∧s.size≤137438953472 then some (dval s.data.toList) else none
theorem zdu {n:Nat} (h:(T n).size≤137438953472):numT (T n)=some n:=by unfold numT; rw [if_pos ⟨T_can n,h⟩,za8]
theorem zbD {s:ByteArray} {n:Nat} (h:numT s=some n):s=T n∧(T n).size≤137438953472:=by
 unfold numT at h
 split at h
 ·rename_i hc
  obtain rfl:=Option.some.inj h
  exact ⟨can_T hc.1,by rw [←can_T hc.1]; exact hc.2⟩
 ·cases h
theorem zdK (n:Nat):n<10^(T n).size:=(zas (zaN n)).1 (Nat.le_refl _)
theorem T_size_add (a b k:Nat) (ha:(T a).size≤k) (hb:(T b).size≤k):(T (a+b)).size≤k+1:=by
 have h1:a<10^k:=Nat.lt_of_lt_of_le (zdK a) (Nat.pow_le_pow_right (by decide) ha)
 have h2:b<10^k:=Nat.lt_of_lt_of_le (zdK b) (Nat.pow_le_pow_right (by decide) hb)
 refine (zas (by omega)).2 ?_
 rw [Nat.pow_succ]; omega
theorem zbc (a b:Nat):(T (a*b)).size≤(T a).size+(T b).size:=by
 have h1:=zdK a
 have h2:=zdK b
 refine (zas (by have:=zaN a; omega)).2 ?_
 rw [Nat.pow_add]
 exact Nat.mul_lt_mul'' h1 h2
theorem zbl {a b:Nat} (h:a≤b):(T a).size≤(T b).size:=by rw [zb2,zb2]; exact zbH h
def c1_Plus.f (a0 a1:ByteArray):Option ByteArray:=(numT a0).bind fun x=>(numT a1).bind fun y=>some (T (x+y))
theorem c1_Plus.calls (a0 a1:ByteArray) (r:ByteArray) (w:World) (h:c1_Plus.f a0 a1=some r) :
  Calls Tryz.prog 129 #[.string a0,.string a1] w fun e w'=>e = .returned (.string r)∧Below w.heap.size w w':=by
 unfold c1_Plus.f at h
 obtain ⟨x,hx,h⟩:=Option.bind_eq_some_iff.1 h
 obtain ⟨y,hy,h⟩:=Option.bind_eq_some_iff.1 h
 obtain rfl:=Option.some.inj h
 obtain ⟨rfl,h1⟩:=zbD hx
 obtain ⟨rfl,h2⟩:=zbD hy
 have h3:=T_size_add x y 137438953472 h1 h2
 obtain ⟨k,hk⟩:=(plus_ev (a:=x) (b:=y) (show _≤_ by omega) (show _≤_ by omega) (show _≤_ by omega)).rounds
 exact ZP.c1_Plus.calls k _ _ _ w hk
theorem Plus_T {a b:Nat} (ha:(T a).size≤137438953472) (hb:(T b).size≤137438953472):c1_Plus.f (T a) (T b)=some (T (a+b)):=by
 unfold c1_Plus.f
 rw [zdu ha,zdu hb]; rfl
def c1_Times.f (a0 a1:ByteArray):Option ByteArray:=(numT a0).bind fun x=>(numT a1).bind fun y=>some (T (x*y))
theorem c1_Times.calls (a0 a1:ByteArray) (r:ByteArray) (w:World) (h:c1_Times.f a0 a1=some r) :
  Calls Tryz.prog 131 #[.string a0,.string a1] w fun e w'=>e = .returned (.string r)∧Below w.heap.size w w':=by
 unfold c1_Times.f at h
 obtain ⟨x,hx,h⟩:=Option.bind_eq_some_iff.1 h
 obtain ⟨y,hy,h⟩:=Option.bind_eq_some_iff.1 h
 obtain rfl:=Option.some.inj h
 obtain ⟨rfl,h1⟩:=zbD hx
 obtain ⟨rfl,h2⟩:=zbD hy
 have h3:=zbc x y
 obtain ⟨k,hk⟩:=(times_ev (a:=x) (b:=y) (show _≤_ by omega) (show _≤_ by omega) (show _≤_ by omega)).rounds
 exact ZP.c1_Times.calls k _ _ _ w hk
theorem zde {a b:Nat} (ha:(T a).size≤137438953472) (hb:(T b).size≤137438953472):c1_Times.f (T a) (T b)=some (T (a*b)):=by
 unfold c1_Times.f
 rw [zdu ha,zdu hb]; rfl
theorem less_dval:∀ (l m:List UInt8),l.length=m.length→Dig l→Dig m→Op.bytesLess l m=decide (dval l<dval m):=by
 intro l
 induction l with
 | nil =>
  intro m h _ _
  have:m = []:=List.length_eq_zero_iff.1 h.symm
  subst this
  rfl
 | cons x xs ih =>
  intro m h hl hm
  rcases m with _|⟨y,ys⟩
  ·simp at h
  ·have hlen:xs.length=ys.length:=by simpa using h
   have hx:=hl x List.mem_cons_self
   have hy:=hm y List.mem_cons_self
   have hxs:Dig xs:=fun c hc=>hl c (List.mem_cons_of_mem _ hc)
   have hys:Dig ys:=fun c hc=>hm c (List.mem_cons_of_mem _ hc)
   have b1:=dval_lt xs hxs
   have b2:=dval_lt ys hys
   rw [hlen] at b1
   have e:=ih ys hlen hxs hys
   rw [zbY,zbY,hlen]
   show (decide (x<y) || (x == y && Op.bytesLess xs ys))=_
   rw [e]
   by_cases h1:x.toNat<y.toNat
   ·have h2:x<y:=UInt8.lt_iff_toNat_lt.2 h1
    have h3:(x.toNat-48)*10^ys.length+dval xs<(y.toNat-48)*10^ys.length+dval ys:=by
     have h4:(x.toNat-48+1)*10^ys.length≤(y.toNat-48)*10^ys.length:=Nat.mul_le_mul_right _ (by omega)
     rw [Nat.add_mul,Nat.one_mul] at h4
     omega
    rw [decide_eq_true h2,decide_eq_true h3]; rfl
   ·have h2:¬ x<y:=fun h=>h1 (UInt8.lt_iff_toNat_lt.1 h)
    rw [decide_eq_false h2,Bool.false_or]
    by_cases h5:x=y
    ·subst h5
     have:decide ((x.toNat-48)*10^ys.length+dval xs<(x.toNat-48)*10^ys.length+dval ys)=decide (dval xs<dval ys):=decide_eq_decide.2 (by omega)
     rw [this,beq_self_eq_true,Bool.true_and]
    ·have h6:(x == y)=false:=beq_eq_false_iff_ne.2 h5
     have h7:y.toNat<x.toNat:=by
      have:x.toNat≠y.toNat:=fun e=>h5 (UInt8.toNat_inj.1 e)
      omega
     have h3:¬ (x.toNat-48)*10^ys.length+dval xs<(y.toNat-48)*10^ys.length+dval ys:=by
      have h4:(y.toNat-48+1)*10^ys.length≤(x.toNat-48)*10^ys.length:=Nat.mul_le_mul_right _ (by omega)
      rw [Nat.add_mul,Nat.one_mul] at h4
      omega
     rw [h6,decide_eq_false h3]; rfl
def cmpN (x y:Nat):Int:=if x<y then -1 else if y<x then 1 else 0
theorem compare_walk (x y:Nat) (w:World) :
  Calls Tryz.prog 147 #[.string (T x),.string (T y)] w fun e w'=>e = .returned (.int .i64 (cmpN x y))∧Below w.heap.size w w':=by
 by_cases hs:(T x).size=(T y).size
 ·have g1:(((T x).size:Int) == ((T y).size:Int))=true:=beq_iff_eq.2 (by omega)
  have hl:=less_dval (T x).data.toList (T y).data.toList (by rw [zak,zak]; exact hs) (T_can x).2.1 (T_can y).2.1
  rw [za8,za8,←ba_toList,←ba_toList] at hl
  by_cases h1:x<y
  ·rw [decide_eq_true h1] at hl
   have HV:=Lib.hid (show cmpN x y = -1 from if_pos h1)
   clear hs h1
   go_enter Tryz.func147,Tryz.ntmps147
   go_wp2
   go_ret
   exact ⟨by rw [HV.out]; rfl,Below.refl _ _⟩
  ·rw [decide_eq_false h1] at hl
   by_cases h2:y<x
   ·have HV:=Lib.hid (show cmpN x y=1 by unfold cmpN; rw [if_neg h1,if_pos h2])
    have hne:((T x).toList == (T y).toList)=false:=beq_eq_false_iff_ne.2 (fun e=>by
     rw [ba_toList,ba_toList] at e
     have:=T_inj ((zaD e).trans (zaD rfl).symm)
     omega)
    clear hs h1 h2
    go_enter Tryz.func147,Tryz.ntmps147
    go_wp2
    go_ret
    exact ⟨by rw [HV.out]; rfl,Below.refl _ _⟩
   ·have he:x=y:=by omega
    subst he
    have HV:=Lib.hid (show cmpN x x=0 by unfold cmpN; rw [if_neg h1,if_neg h2])
    have heq:((T x).toList == (T x).toList)=true:=beq_self_eq_true _
    clear hs h1 h2
    go_enter Tryz.func147,Tryz.ntmps147
    go_wp2
    go_ret
    exact ⟨by rw [HV.out]; rfl,Below.refl _ _⟩
 ·have g1:(((T x).size:Int) == ((T y).size:Int))=false:=beq_eq_false_iff_ne.2 (by omega)
  by_cases h1:(T x).size<(T y).size
  ·have h2:((T x).size:Int)<((T y).size:Int):=by omega
   have HV:=Lib.hid (show cmpN x y = -1 by
    have:x<y:=zc0 (by rwa [zb2,zb2] at h1)
    exact if_pos this)
   clear hs h1
   go_enter Tryz.func147,Tryz.ntmps147
   go_wp2
   go_ret
   exact ⟨by rw [HV.out]; rfl,Below.refl _ _⟩
  ·have h2:¬ ((T x).size:Int)<((T y).size:Int):=by omega
   have HV:=Lib.hid (show cmpN x y=1 by
    have:y<x:=zc0 (by rw [←zb2,←zb2]; omega)
    unfold cmpN
    rw [if_neg (by omega),if_pos this])
   clear hs h1
   go_enter Tryz.func147,Tryz.ntmps147
   go_wp2
   go_ret
   exact ⟨by rw [HV.out]; rfl,Below.refl _ _⟩
def c1_Compare.f (a0 a1:ByteArray):Option Int:=(numT a0).bind fun x=>(numT a1).bind fun y=>some (cmpN x y)
theorem c1_Compare.calls (a0 a1:ByteArray) (r:Int) (w:World) (h:c1_Compare.f a0 a1=some r) :
  Calls Tryz.prog 147 #[.string a0,.string a1] w fun e w'=>e = .returned (.int .i64 r)∧Below w.heap.size w w':=by
 unfold c1_Compare.f at h
 obtain ⟨x,hx,h⟩:=Option.bind_eq_some_iff.1 h
 obtain ⟨y,hy,h⟩:=Option.bind_eq_some_iff.1 h
 obtain rfl:=Option.some.inj h
 obtain ⟨rfl,h1⟩:=zbD hx
 obtain ⟨rfl,h2⟩:=zbD hy
 exact compare_walk x y w
theorem Compare_T {a b:Nat} (ha:(T a).size≤137438953472) (hb:(T b).size≤137438953472):c1_Compare.f (T a) (T b)=some (cmpN a b):=by
 unfold c1_Compare.f
 rw [zdu ha,zdu hb]; rfl
end Go.Proofs.ZQ
end
section
namespace Go.Proofs.ZP
open Go.RowKit Go.Proofs.ZW.Wa Go.Proofs.ZW.Wb Go.Proofs.ZW.Wc
attribute [local go_sem] zaC zaB zaM zaL zaz zay zaF zaE
def c1_Power.l0:Nat→ByteArray→Int→ByteArray→Option (ByteArray)
 | 0,_,_,_=>none
 | k+1,x0,x1,x5=>if x1>0 then (if (Int.tmod x1 2)=1 then ((c1_Times.f k x5 x0).bind fun t383=>(if (wrap64 (Int.tdiv x1 2))>0 then ((c1_Times.f k x0 x0).bind fun t384=>(c1_Power.l0 k t384 (wrap64 (Int.tdiv x1 2)) t383)) else (c1_Power.l0 k x0 (wrap64 (Int.tdiv x1 2)) t383))) else (if (wrap64 (Int.tdiv x1 2))>0 then ((c1_Times.f k x0 x0).bind fun t385=>(c1_Power.l0 k t385 (wrap64 (Int.tdiv x1 2)) x5)) else (c1_Power.l0 k x0 (wrap64 (Int.tdiv x1 2)) x5))) else (some x5)
def c1_Power.f (k:Nat) (a0:ByteArray) (a1:Int):Option (ByteArray):=c1_Power.l0 k a0 a1 (⟨#[49]⟩:ByteArray)
theorem c1_Power.calls (k:Nat) (a0:ByteArray) (a1:Int) (r:ByteArray) (w:World) (h:c1_Power.f k a0 a1=some r) :
  Calls Tryz.prog 84 #[.string a0,.int .i64 a1] w fun e w'=>e = .returned (.string r)∧Below w.heap.size w w':=by
 have HB:=Aside0.mk (Below.refl w.heap.size w)
 have H:(c1_Power.l0 k a0 a1 (⟨#[49]⟩:ByteArray))=some r:=h
 clear h
 have H':=Aside0.mk H
 clear H
 go_enter Tryz.func84,Tryz.ntmps84
 go_wp2
 go_loopg [0,1,5] k (fun kq v0 v1 v5 w'=>∃ (x0_1:ByteArray) (x1_1:Int) (x5_1:ByteArray),v0 = .string x0_1∧v1 = .int .i64 x1_1∧v5 = .string x5_1∧Aside0 (c1_Power.l0 kq x0_1 x1_1 x5_1=some r)∧Aside0 (kq≤k)∧Aside0 (Below w.heap.size w w'))
 case atStart=>exact ⟨(a0),(a1),((⟨#[49]⟩:ByteArray)),(by first|rfl|(simp; done)|(simp [*]; done)),(by first|rfl|(simp; done)|(simp [*]; done)),(by first|rfl|(simp; done)|(simp [*]; done)),H',⟨Nat.le_refl _⟩,⟨by repeat (first|(with_reducible first|exact HB.out|apply zaa|apply zab|apply zac)|exact HB.out)⟩⟩
 case round =>
  clear H'
  try clear p2
  obtain ⟨x0_1,x1_1,x5_1,rfl,rfl,rfl,HA,HK1,HB⟩:=hrel
  cases gk with
  | zero=>exact absurd HA.out (by simp [c1_Power.l0])
  | succ k1 =>
   have H:=HA.out
   clear HA
   simp only [c1_Power.l0] at H
   by_cases c3:x1_1>0
   ·rw [if_pos c3] at H
    have c3b0:decide (0<x1_1)=true:=decide_eq_true c3
    clear c3
    by_cases c4:(Int.tmod x1_1 2)=1
    ·rw [if_pos c4] at H
     have c4b0:((Int.tmod x1_1 2) == 1)=true:=beq_iff_eq.mpr c4
     have c4b1:((Int.tmod x1_1 2) != 1)=false:=bne_eq_false_iff_eq.mpr c4
     clear c4
     replace H:=Option.bind_eq_some_iff.mp H
     obtain ⟨t383,A50,H⟩:=H
     replace H:(if (wrap64 (Int.tdiv x1_1 2))>0 then ((c1_Times.f k1 x0_1 x0_1).bind fun t384=>(c1_Power.l0 k1 t384 (wrap64 (Int.tdiv x1_1 2)) t383)) else (c1_Power.l0 k1 x0_1 (wrap64 (Int.tdiv x1_1 2)) t383))=some r:=H
     have A5:=Aside0.mk A50
     clear A50
     by_cases c6:(wrap64 (Int.tdiv x1_1 2))>0
     ·rw [if_pos c6] at H
      have c6b0:decide (0<(wrap64 (Int.tdiv x1_1 2)))=true:=decide_eq_true c6
      clear c6
      replace H:=Option.bind_eq_some_iff.mp H
      obtain ⟨t384,A70,H⟩:=H
      replace H:(c1_Power.l0 k1 t384 (wrap64 (Int.tdiv x1_1 2)) t383)=some r:=H
      have A7:=Aside0.mk A70
      clear A70
      have H':=Aside0.mk H
      clear H
      go_wp2_with (first|((with_reducible refine zav (f:=131) rfl ?_); refine za5 (some 13) rfl rfl Tryz.func131 (by kernel_rfl) rfl #[.string x5_1,.string x0_1] rfl (by (try simp only [List.map_toArray,List.map_cons,List.map_nil]); first|done|rfl|(simp only [List.length_drop,List.length_take]; rfl)) ?_; (with_reducible refine (c1_Times.calls k1 x5_1 x0_1 t383 _ A5.out).mono ?_); rintro e w8 ⟨rfl,hb⟩; refine ⟨_,rfl,?_⟩; have n0_:=Aside0.mk (zam (by repeat (first|(with_reducible first|exact HB.out|apply zaa|apply zab|apply zac)|exact HB.out)) hb); clear HB; have HB:=n0_; clear n0_; (try clear hb); (try clear hb2); (try clear hk); (try clear hi))|((with_reducible refine zav (f:=131) rfl ?_); refine za5 (some 20) rfl rfl Tryz.func131 (by kernel_rfl) rfl #[.string x0_1,.string x0_1] rfl (by (try simp only [List.map_toArray,List.map_cons,List.map_nil]); first|done|rfl|(simp only [List.length_drop,List.length_take]; rfl)) ?_; (with_reducible refine (c1_Times.calls k1 x0_1 x0_1 t384 _ A7.out).mono ?_); rintro e w9 ⟨rfl,hb⟩; refine ⟨_,rfl,?_⟩; have n0_:=Aside0.mk (zam (by repeat (first|(with_reducible first|exact HB.out|apply zaa|apply zab|apply zac)|exact HB.out)) hb); clear HB; have HB:=n0_; clear n0_; (try clear hb); (try clear hb2); (try clear hk); (try clear hi)))
      go_roundg k1
      case measure=>have:=HK1.out; omega
      case rel=>exact ⟨(t384),(wrap64 (Int.tdiv x1_1 2)),(t383),(by first|rfl|(simp; done)|(simp [*]; done)),(by first|rfl|(simp; done)|(simp [*]; done)),(by first|rfl|(simp; done)|(simp [*]; done)),H',⟨by have:=HK1.out; omega⟩,⟨by repeat (first|(with_reducible first|exact HB.out|apply zaa|apply zab|apply zac)|exact HB.out)⟩⟩
     ·rw [if_neg c6] at H
      have c6b0:decide (0<(wrap64 (Int.tdiv x1_1 2)))=false:=decide_eq_false c6
      clear c6
      have H':=Aside0.mk H
      clear H
      go_wp2_with (first|((with_reducible refine zav (f:=131) rfl ?_); refine za5 (some 13) rfl rfl Tryz.func131 (by kernel_rfl) rfl #[.string x5_1,.string x0_1] rfl (by (try simp only [List.map_toArray,List.map_cons,List.map_nil]); first|done|rfl|(simp only [List.length_drop,List.length_take]; rfl)) ?_; (with_reducible refine (c1_Times.calls k1 x5_1 x0_1 t383 _ A5.out).mono ?_); rintro e w10 ⟨rfl,hb⟩; refine ⟨_,rfl,?_⟩; have n0_:=Aside0.mk (zam (by repeat (first|(with_reducible first|exact HB.out|apply zaa|apply zab|apply zac)|exact HB.out)) hb); clear HB; have HB:=n0_; clear n0_; (try clear hb); (try clear hb2); (try clear hk); (try clear hi)))
      go_roundg k1
      case measure=>have:=HK1.out; omega
      case rel=>exact ⟨(x0_1),(wrap64 (Int.tdiv x1_1 2)),(t383),(by first|rfl|(simp; done)|(simp [*]; done)),(by first|rfl|(simp; done)|(simp [*]; done)),(by first|rfl|(simp; done)|(simp [*]; done)),H',⟨by have:=HK1.out; omega⟩,⟨by repeat (first|(with_reducible first|exact HB.out|apply zaa|apply zab|apply zac)|exact HB.out)⟩⟩
    ·rw [if_neg c4] at H
     have c4b0:((Int.tmod x1_1 2) == 1)=false:=beq_eq_false_iff_ne.mpr c4
     have c4b1:((Int.tmod x1_1 2) != 1)=true:=bne_iff_ne.mpr c4
     by_cases c11:(wrap64 (Int.tdiv x1_1 2))>0
     ·rw [if_pos c11] at H
      have c11b0:decide (0<(wrap64 (Int.tdiv x1_1 2)))=true:=decide_eq_true c11
      clear c11
      replace H:=Option.bind_eq_some_iff.mp H
      obtain ⟨t385,A120,H⟩:=H
      replace H:(c1_Power.l0 k1 t385 (wrap64 (Int.tdiv x1_1 2)) x5_1)=some r:=H
      have A12:=Aside0.mk A120
      clear A120
      have H':=Aside0.mk H
      clear H
      go_wp2_with (first|((with_reducible refine zav (f:=131) rfl ?_); refine za5 (some 20) rfl rfl Tryz.func131 (by kernel_rfl) rfl #[.string x0_1,.string x0_1] rfl (by (try simp only [List.map_toArray,List.map_cons,List.map_nil]); first|done|rfl|(simp only [List.length_drop,List.length_take]; rfl)) ?_; (with_reducible refine (c1_Times.calls k1 x0_1 x0_1 t385 _ A12.out).mono ?_); rintro e w13 ⟨rfl,hb⟩; refine ⟨_,rfl,?_⟩; have n0_:=Aside0.mk (zam (by repeat (first|(with_reducible first|exact HB.out|apply zaa|apply zab|apply zac)|exact HB.out)) hb); clear HB; have HB:=n0_; clear n0_; (try clear hb); (try clear hb2); (try clear hk); (try clear hi)))
      go_roundg k1
      case measure=>have:=HK1.out; omega
      case rel=>exact ⟨(t385),(wrap64 (Int.tdiv x1_1 2)),(x5_1),(by first|rfl|(simp; done)|(simp [*]; done)),(by first|rfl|(simp; done)|(simp [*]; done)),(by first|rfl|(simp; done)|(simp [*]; done)),H',⟨by have:=HK1.out; omega⟩,⟨by repeat (first|(with_reducible first|exact HB.out|apply zaa|apply zab|apply zac)|exact HB.out)⟩⟩
     ·rw [if_neg c11] at H
      have c11b0:decide (0<(wrap64 (Int.tdiv x1_1 2)))=false:=decide_eq_false c11
      clear c11
      have H':=Aside0.mk H
      clear H
      go_wp2
      go_roundg k1
      case measure=>have:=HK1.out; omega
      case rel=>exact ⟨(x0_1),(wrap64 (Int.tdiv x1_1 2)),(x5_1),(by first|rfl|(simp; done)|(simp [*]; done)),(by first|rfl|(simp; done)|(simp [*]; done)),(by first|rfl|(simp; done)|(simp [*]; done)),H',⟨by have:=HK1.out; omega⟩,⟨by repeat (first|(with_reducible first|exact HB.out|apply zaa|apply zab|apply zac)|exact HB.out)⟩⟩
   ·rw [if_neg c3] at H
    have c3b0:decide (0<x1_1)=false:=decide_eq_false c3
    clear c3
    obtain rfl:=Option.some.inj H
    go_wp2
    go_ret
    exact ⟨by first|rfl|(simp [zao,zan]<;>rfl)|(simp [*,zao,zan]<;>rfl),by repeat (first|(with_reducible first|exact HB.out|apply zaa|apply zab|apply zac)|exact HB.out)⟩
end Go.Proofs.ZP
end
section
namespace Go.Proofs.ZQ
open Go.RowKit Go.Proofs.ZW.Wa Go.Proofs.ZP
theorem times_ev' {a b B:Nat} (h:(T a).size+(T b).size≤B) (hB:B≤274877906944):Ev (fun k=>ZP.c1_Times.f k (T a) (T b)) (T (a*b)):=
 times_ev (show _≤_ by omega) (show _≤_ by omega) (show _≤_ by have:=zbc a b; omega)
theorem power_loop:∀ (n x o:Nat),n≤1000000000→4*(T x).size*n+(T o).size≤137438953472→Ev (fun k=>ZP.c1_Power.l0 k (T x) (n:Int) (T o)) (T (o*x^n)):=by
 intro n
 induction n using Nat.strongRecOn with
 | ind n ih =>
  intro x o hn hs
  rcases Nat.eq_zero_or_pos n with h0|h0
  ·subst h0
   rw [Nat.pow_zero,Nat.mul_one]
   refine Ev.step (f:=fun _=>some (T o)) (fun k => ?_) (Ev.now _)
   simp only [ZP.c1_Power.l0]
   rw [if_neg (by omega)]
  ·have hsz:=zbc x x
   have hso:=zbc o x
   have e1:Int.tmod (n:Int) 2=((n%2:Nat):Int):=by rw [Int.tmod_eq_emod_of_nonneg (by omega)]; omega
   have e2:wrap64 (Int.tdiv (n:Int) 2)=((n/2:Nat):Int):=by rw [Int.tdiv_eq_ediv_of_nonneg (by omega),w64' (by omega) (by omega)]; omega
   have hT:4*(T x).size≤4*(T x).size*n:=by
    have:=Nat.mul_le_mul_left (4*(T x).size) h0
    omega
   have hhalf:4*(T (x*x)).size*(n/2)≤4*(T x).size*(2*(n/2)):=by
    have:=Nat.mul_le_mul_right (n/2) (show 4*(T (x*x)).size≤4*(T x).size*2 by omega)
    rwa [Nat.mul_assoc (4*(T x).size)] at this
   have hX:Ev (fun k=>ZP.c1_Times.f k (T x) (T x)) (T (x*x)):=times_ev' (B:=137438953472) (by omega) (by decide)
   by_cases hodd:n%2=1
   ·have hO:Ev (fun k=>ZP.c1_Times.f k (T o) (T x)) (T (o*x)):=times_ev' (B:=137438953472) (by omega) (by decide)
    by_cases hn2:0<n/2
    ·have hsum:4*(T x).size*(2*(n/2))+4*(T x).size=4*(T x).size*n:=by
      have:n=2*(n/2)+1:=by omega
      conv=>rhs; rw [this,Nat.mul_add,Nat.mul_one]
     have hr:=ih (n/2) (by omega) (x*x) (o*x) (by omega) (by omega)
     have ev:o*x*(x*x)^(n/2)=o*x^n:=by
      have:n=2*(n/2)+1:=by omega
      conv=>rhs; rw [this,Nat.pow_succ,Nat.pow_mul,Nat.pow_two]
      rw [Nat.mul_assoc,Nat.mul_comm x]
     rw [ev] at hr
     refine Ev.step (f:=fun k=>(ZP.c1_Times.f k (T o) (T x)).bind fun t383=>((ZP.c1_Times.f k (T x) (T x)).bind fun t384=>(ZP.c1_Power.l0 k t384 ((n/2:Nat):Int) t383))) (fun k => ?_) (Ev.bind hO (Ev.bind hX hr))
     simp only [ZP.c1_Power.l0]
     rw [if_pos (by omega),e1,if_pos (by omega),e2]
     simp only [if_pos (show ((n/2:Nat):Int)>0 by omega)]
    ·have h1:n=1:=by omega
     have h2:n/2=0:=by omega
     have hr:=ih 0 (by omega) x (o*x) (by omega) (by omega)
     rw [Nat.pow_zero,Nat.mul_one] at hr
     subst h1
     rw [Nat.pow_one]
     refine Ev.step (f:=fun k=>(ZP.c1_Times.f k (T o) (T x)).bind fun t383=>(ZP.c1_Power.l0 k (T x) ((0:Nat):Int) t383)) (fun k => ?_) (Ev.bind hO hr)
     simp only [ZP.c1_Power.l0]
     rw [if_pos (by omega),e1,if_pos (by omega),e2]
     rfl
   ·have hsum:2*(n/2)=n:=by omega
    rw [hsum] at hhalf
    have hn2:0<n/2:=by omega
    have hr:=ih (n/2) (by omega) (x*x) o (by omega) (by omega)
    have ev:o*(x*x)^(n/2)=o*x^n:=by
     conv=>rhs; rw [←hsum,Nat.pow_mul,Nat.pow_two]
    rw [ev] at hr
    refine Ev.step (f:=fun k=>(ZP.c1_Times.f k (T x) (T x)).bind fun t385=>(ZP.c1_Power.l0 k t385 ((n/2:Nat):Int) (T o))) (fun k => ?_) (Ev.bind hX hr)
    simp only [ZP.c1_Power.l0]
    rw [if_pos (by omega),e1,if_neg (by omega),e2,if_pos (by omega)]
def c1_Power.f (a0:ByteArray) (a1:Int):Option ByteArray:=(numT a0).bind fun x=>if 0≤a1∧a1≤1000000000∧4*(T x).size*a1.toNat+1≤137438953472 then some (T (x^a1.toNat)) else none
theorem c1_Power.calls (a0:ByteArray) (a1:Int) (r:ByteArray) (w:World) (h:c1_Power.f a0 a1=some r) :
  Calls Tryz.prog 84 #[.string a0,.int .i64 a1] w fun e w'=>e = .returned (.string r)∧Below w.heap.size w w':=by
 unfold c1_Power.f at h
 obtain ⟨x,hx,h⟩:=Option.bind_eq_some_iff.1 h
 split at h
 ·rename_i hc
  obtain rfl:=Option.some.inj h
  obtain ⟨rfl,h1⟩:=zbD hx
  obtain ⟨n,rfl⟩:=Int.eq_ofNat_of_zero_le hc.1
  rw [Int.toNat_natCast] at hc ⊢
  have hl:=power_loop n x 1 (by omega) (by rw [show (T 1).size=1 from by rw [zb2,zbo (by decide)]; rfl]; exact hc.2.2)
  rw [Nat.one_mul] at hl
  obtain ⟨k,hk⟩:=hl.rounds
  refine ZP.c1_Power.calls k (T x) n _ w ?_
  have e:T 1=⟨#[49]⟩:=by unfold T; rw [zbo (by decide)]; rfl
  rw [e] at hk
  exact hk
 ·cases h
end Go.Proofs.ZQ
end
section
namespace Go.Proofs.ZP
open Go.RowKit Go.Proofs.ZW.Wa Go.Proofs.ZW.Wb Go.Proofs.ZW.Wc
attribute [local go_sem] zaC zaB zaM zaL zaz zay zaF zaE
def c1_less.l0:Nat→List Int→List Int→Int→Option (Bool)
 | 0,_,_,_=>none
 | k+1,x0,x1,x5=>if x5≥0 then (if 0≤x5 then (if x5<(x0.length:Int) then (if x5<(x1.length:Int) then (if (rd x0 x5)=(rd x1 x5) then (c1_less.l0 k x0 x1 (wrap64 (x5-1))) else (some (decide ((rd x0 x5)<(rd x1 x5))))) else (none)) else (none)) else (none)) else (some false)
def c1_less.f (k:Nat) (l0:List Int) (l1:List Int):Option (Bool):=if (l0.length:Int)=(l1.length:Int) then (c1_less.l0 k l0 l1 (wrap64 ((l0.length:Int)-1))) else (some (decide ((l0.length:Int)<(l1.length:Int))))
theorem c1_less.calls (k : Nat) (A0 : Option Addr) (c0 : Nat) (l0 : List Int) (A1 : Option Addr) (c1 : Nat) (l1 : List Int) (r : Bool) (w : World) (hr0 : Kd.C (Kd.int .i64) w A0 l0.length l0) (hc0 : l0.length ≤ c0) (hr1 : Kd.C (Kd.int .i64) w A1 l1.length l1) (hc1 : l1.length ≤ c1) (h : c1_less.f k l0 l1 = some r) :
  Calls Tryz.prog 204 #[.slice A0 l0.length c0,.slice A1 l1.length c1] w fun e w'=>e = .returned (.bool r)∧Drawn0 w w':=by
 have HR0:=Aside0.mk hr0
 have HC0:=Aside0.mk hc0
 clear hr0 hc0
 have HR1:=Aside0.mk hr1
 have HC1:=Aside0.mk hc1
 clear hr1 hc1
 have H:(if (l0.length:Int)=(l1.length:Int) then (c1_less.l0 k l0 l1 (wrap64 ((l0.length:Int)-1))) else (some (decide ((l0.length:Int)<(l1.length:Int)))))=some r:=h
 clear h
 by_cases c3:(l0.length:Int)=(l1.length:Int)
 ·rw [if_pos c3] at H
  have c3b0:((l0.length:Int) == (l1.length:Int))=true:=beq_iff_eq.mpr c3
  have c3b1:((l0.length:Int) != (l1.length:Int))=false:=bne_eq_false_iff_eq.mpr c3
  have c3b2:(l0.length == l1.length)=true:=by first|simpa using c3|(simp at c3 ⊢; omega)
  clear c3
  have H':=Aside0.mk H
  clear H
  go_enter Tryz.func204,Tryz.ntmps204
  go_wp2
  repeat (go_quiet (fail); try go_wp2)
  go_loopg [5] k (fun kq v5 w'=>∃ (x5_1:Int),v5 = .int .i64 x5_1∧Aside0 (c1_less.l0 kq l0 l1 x5_1=some r)∧Aside0 (kq≤k)∧Drawn0 w w')
  case atStart=>exact ⟨(wrap64 ((l0.length:Int)-1)),(by first|rfl|(simp; done)|(simp [*]; done)),H',⟨Nat.le_refl _⟩,by repeat (first|exact Drawn0.refl _|apply Drawn0.step)⟩
  case round =>
   clear H'
   try clear c1
   try clear c2
   try clear p2
   try clear c3
   try clear c3b0
   try clear c3b1
   try clear c3b2
   obtain ⟨x5_1,rfl,HA,HK1,⟨m1,rfl⟩⟩:=hrel
   cases gk with
   | zero=>exact absurd HA.out (by simp [c1_less.l0])
   | succ k1 =>
    have H:=HA.out
    clear HA
    simp only [c1_less.l0] at H
    by_cases c4:x5_1≥0
    ·rw [if_pos c4] at H
     have c4b0:decide (0≤x5_1)=true:=decide_eq_true c4
     clear c4
     by_cases c5:0≤x5_1
     ·rw [if_pos c5] at H
      have c5b0:decide (0≤x5_1)=true:=decide_eq_true c5
      clear c5
      by_cases c6:x5_1<(l0.length:Int)
      ·rw [if_pos c6] at H
       have c6b0:decide (x5_1<(l0.length:Int))=true:=decide_eq_true c6
       clear c6
       by_cases c7:x5_1<(l1.length:Int)
       ·rw [if_pos c7] at H
        have c7b0:decide (x5_1<(l1.length:Int))=true:=decide_eq_true c7
        clear c7
        by_cases c8:(rd l0 x5_1)=(rd l1 x5_1)
        ·rw [if_pos c8] at H
         have c8b0:((rd l0 x5_1) == (rd l1 x5_1))=true:=beq_iff_eq.mpr c8
         have c8b1:((rd l0 x5_1) != (rd l1 x5_1))=false:=bne_eq_false_iff_eq.mpr c8
         clear c8
         have H':=Aside0.mk H
         clear H
         have p268:0≤(x5_1:Int):=of_decide_eq_true (by first|(with_reducible assumption)|assumption)
         have q268:x5_1<(l0.length:Int):=of_decide_eq_true (by first|(with_reducible assumption)|assumption)
         obtain ⟨ad268,e268,hx268_0⟩:=Kd.at_int HR0.out x5_1 p268 q268
         cases e268
         replace p268:=eq_true p268
         replace q268:=eq_true q268
         have p269:0≤(x5_1:Int):=of_decide_eq_true (by first|(with_reducible assumption)|assumption)
         have q269:x5_1<(l1.length:Int):=of_decide_eq_true (by first|(with_reducible assumption)|assumption)
         obtain ⟨ad269,e269,hx269_0⟩:=Kd.at_int HR1.out x5_1 p269 q269
         cases e269
         replace p269:=eq_true p269
         replace q269:=eq_true q269
         go_wp2
         repeat (go_quiet (fail); try go_wp2)
         go_roundg k1
         case measure=>have:=HK1.out; omega
         case rel=>exact ⟨(wrap64 (x5_1-1)),(by first|rfl|(simp; done)|(simp [*]; done)),H',⟨by have:=HK1.out; omega⟩,by repeat (first|exact Drawn0.refl _|apply Drawn0.step)⟩
        ·rw [if_neg c8] at H
         have c8b0:((rd l0 x5_1) == (rd l1 x5_1))=false:=beq_eq_false_iff_ne.mpr c8
         have c8b1:((rd l0 x5_1) != (rd l1 x5_1))=true:=bne_iff_ne.mpr c8
         obtain rfl:=Option.some.inj H
         have p268:0≤(x5_1:Int):=of_decide_eq_true (by first|(with_reducible assumption)|assumption)
         have q268:x5_1<(l0.length:Int):=of_decide_eq_true (by first|(with_reducible assumption)|assumption)
         obtain ⟨ad268,e268,hx268_0⟩:=Kd.at_int HR0.out x5_1 p268 q268
         cases e268
         replace p268:=eq_true p268
         replace q268:=eq_true q268
         have p269:0≤(x5_1:Int):=of_decide_eq_true (by first|(with_reducible assumption)|assumption)
         have q269:x5_1<(l1.length:Int):=of_decide_eq_true (by first|(with_reducible assumption)|assumption)
         obtain ⟨ad269,e269,hx269_0⟩:=Kd.at_int HR1.out x5_1 p269 q269
         cases e269
         replace p269:=eq_true p269
         replace q269:=eq_true q269
         have p270:0≤(x5_1:Int):=of_decide_eq_true (by first|(with_reducible assumption)|assumption)
         have q270:x5_1<(l0.length:Int):=of_decide_eq_true (by first|(with_reducible assumption)|assumption)
         obtain ⟨ad270,e270,hx270_0⟩:=Kd.at_int HR0.out x5_1 p270 q270
         obtain rfl:ad268=ad270:=(by injection e270)
         replace p270:=eq_true p270
         replace q270:=eq_true q270
         have p271:0≤(x5_1:Int):=of_decide_eq_true (by first|(with_reducible assumption)|assumption)
         have q271:x5_1<(l1.length:Int):=of_decide_eq_true (by first|(with_reducible assumption)|assumption)
         obtain ⟨ad271,e271,hx271_0⟩:=Kd.at_int HR1.out x5_1 p271 q271
         obtain rfl:ad269=ad271:=(by injection e271)
         replace p271:=eq_true p271
         replace q271:=eq_true q271
         go_wp2
         repeat (go_quiet (fail); try go_wp2)
         go_ret
         exact ⟨by first|rfl|(simp; done)|(simp [*]; done),by repeat (first|exact Drawn0.refl _|apply Drawn0.step)⟩
       ·rw [if_neg c7] at H
        exact absurd H (by simp)
      ·rw [if_neg c6] at H
       exact absurd H (by simp)
     ·rw [if_neg c5] at H
      exact absurd H (by simp)
    ·rw [if_neg c4] at H
     have c4b0:decide (0≤x5_1)=false:=decide_eq_false c4
     clear c4
     obtain rfl:=Option.some.inj H
     go_wp2
     repeat (go_quiet (fail); try go_wp2)
     go_ret
     exact ⟨by first|rfl|(simp; done)|(simp [*]; done),by repeat (first|exact Drawn0.refl _|apply Drawn0.step)⟩
 ·rw [if_neg c3] at H
  have c3b0:((l0.length:Int) == (l1.length:Int))=false:=beq_eq_false_iff_ne.mpr c3
  have c3b1:((l0.length:Int) != (l1.length:Int))=true:=bne_iff_ne.mpr c3
  have c3b2:(l0.length == l1.length)=false:=by first|simpa using c3|(simp at c3 ⊢; omega)
  obtain rfl:=Option.some.inj H
  go_enter Tryz.func204,Tryz.ntmps204
  go_wp2
  repeat (go_quiet (fail); try go_wp2)
  go_ret
  exact ⟨by first|rfl|(simp; done)|(simp [*]; done),by repeat (first|exact Drawn0.refl _|apply Drawn0.step)⟩
end Go.Proofs.ZP
end
section
namespace Go.Proofs.ZP
open Go.RowKit Go.Proofs.ZW.Wa
theorem lv_top {xs:List Int} (h:Ld xs) (ht:xs.getLast? ≠ some 0) (hn:xs ≠ []):(10000:Int)^(xs.length-1)≤lv xs:=by
 obtain ⟨ys,y,rfl⟩:∃ ys y,xs=ys ++ [y]:=⟨xs.dropLast,xs.getLast hn,(List.dropLast_concat_getLast hn).symm⟩
 have hy:y≠0:=by simpa using ht
 have h1:=h y (by simp)
 have h2:=za4 (fun u hu=>h u (List.mem_append_left _ hu):Ld ys)
 rw [lv_snoc]
 simp only [List.length_append,List.length_singleton,Nat.add_sub_cancel]
 have h3:(10000:Int)^ys.length*1≤10000^ys.length*y:=Int.mul_le_mul_of_nonneg_left (by omega) (Int.le_of_lt (zcw _))
 omega
theorem lv_len_lt {xs ys:List Int} (hx:Ld xs) (hy:Ld ys) (ht:ys.getLast? ≠ some 0) (h:xs.length<ys.length):lv xs<lv ys:=by
 have h1:=lv_lt hx
 have h2:=lv_top hy ht (by intro e; rw [e] at h; simp at h)
 have h3:(10000:Int)^xs.length≤10000^(ys.length-1):=by
  have h6:(10000:Nat)^xs.length≤10000^(ys.length-1):=Nat.pow_le_pow_right (by decide) (by omega)
  have h7:=Int.ofNat_le.2 h6
  rw [Int.natCast_pow,Int.natCast_pow] at h7
  exact h7
 exact Int.lt_of_lt_of_le h1 (Int.le_trans h3 h2)
theorem lv_at (xs:List Int) {i:Nat} (h:i<xs.length):lv xs=lv (xs.take i)+10000^i*(rd xs (i:Int)+10000*lv (xs.drop (i+1))):=by
 have h1:=lv_take_drop xs i (by omega)
 have h2:=lv_drop xs i
 rw [show rz xs i=rd xs (i:Int) from if_pos h] at h2
 rw [h1,h2]
theorem cmp_at {L M P x y D:Int} (h0:0≤L) (h1:L<P) (h2:0≤M) (h3:M<P) (hlt:x<y):L+P*(x+10000*D)<M+P*(y+10000*D):=by
 have e:P*(x+1)≤P*y:=Int.mul_le_mul_of_nonneg_left (by omega) (by omega)
 rw [Int.mul_add,Int.mul_one] at e
 rw [Int.mul_add,Int.mul_add]
 generalize P*(10000*D)=Z
 omega
theorem less_loop (xs ys:List Int) (hx:Ld xs) (hy:Ld ys) (hl:xs.length=ys.length) (hm:xs.length≤1099511627776):∀ (i:Nat),i≤xs.length→xs.drop i=ys.drop i→Ev (fun k=>c1_less.l0 k xs ys ((i:Int)-1)) (decide (lv xs<lv ys)):=by
 intro i
 induction i with
 | zero =>
  intro _ hd
  rw [List.drop_zero,List.drop_zero] at hd
  rw [hd,decide_eq_false (Int.lt_irrefl _)]
  refine Ev.step (f:=fun _=>some false) (fun k => ?_) (Ev.now _)
  simp only [c1_less.l0]
  rw [if_neg (by omega)]
 | succ i ih =>
  intro hi hd
  have hix:i<xs.length:=by omega
  have hiy:i<ys.length:=by omega
  have e0:((i+1:Nat):Int)-1=(i:Int):=by omega
  rw [e0]
  by_cases he:rd xs (i:Int)=rd ys (i:Int)
  ·have hd2:xs.drop i=ys.drop i:=by
    rw [List.drop_eq_getElem_cons hix,List.drop_eq_getElem_cons hiy,hd]
    rw [rd_lt hix,rd_lt hiy] at he
    rw [he]
   refine Ev.step (fun k => ?_) (ih (by omega) hd2)
   simp only [c1_less.l0]
   rw [if_pos (by omega),if_pos (by omega),if_pos (by omega),if_pos (by omega),if_pos he,w64' (by omega) (by omega)]
  ·have a1:=lv_at xs hix
   have a2:=lv_at ys hiy
   have b1:=za4 (hx.take i)
   have b2:=za4 (hy.take i)
   have c1:=lv_lt (hx.take i)
   have c2:=lv_lt (hy.take i)
   rw [List.length_take,Nat.min_eq_left (by omega)] at c1 c2
   have hk:decide (lv xs<lv ys)=decide (rd xs (i:Int)<rd ys (i:Int)):=by
    refine decide_eq_decide.2 ?_
    rw [a1,a2,hd]
    constructor
    ·intro h
     apply Classical.byContradiction
     intro hn
     have:=cmp_at (D:=lv (ys.drop (i+1))) b2 c2 b1 c1 (show rd ys (i:Int)<rd xs (i:Int) by omega)
     exact Int.lt_irrefl _ (Int.lt_trans h this)
    ·intro h
     exact cmp_at b1 c1 b2 c2 h
   rw [hk]
   refine Ev.step (f:=fun _=>some (decide (rd xs (i:Int)<rd ys (i:Int)))) (fun k => ?_) (Ev.now _)
   simp only [c1_less.l0]
   rw [if_pos (Int.natCast_nonneg i),if_pos (Int.natCast_nonneg i),if_pos (Int.ofNat_lt.2 hix),if_pos (Int.ofNat_lt.2 hiy),if_neg he]
theorem less_ev (xs ys:List Int) (hx:Ld xs) (hy:Ld ys) (tx:xs.getLast? ≠ some 0) (ty:ys.getLast? ≠ some 0) (hm:xs.length≤1099511627776):Ev (fun k=>c1_less.f k xs ys) (decide (lv xs<lv ys)):=by
 unfold c1_less.f
 by_cases hl:(xs.length:Int)=(ys.length:Int)
 ·have h:=less_loop xs ys hx hy (by omega) hm xs.length (Nat.le_refl _) (by rw [List.drop_length,show xs.length=ys.length by omega,List.drop_length])
  refine Ev.congr (fun k => ?_) h
  rw [if_pos hl,w64' (by omega) (by omega)]
 ·have hk:decide (lv xs<lv ys)=decide ((xs.length:Int)<(ys.length:Int)):=by
   refine decide_eq_decide.2 ⟨fun h => ?_,fun h=>lv_len_lt hx hy ty (by omega)⟩
   apply Classical.byContradiction
   intro hn
   have:=lv_len_lt hy hx tx (by omega)
   exact Int.lt_irrefl _ (Int.lt_trans h this)
  rw [hk]
  exact Ev.congr (f:=fun _=>some (decide ((xs.length:Int)<(ys.length:Int)))) (fun k=>if_neg hl) (Ev.now _)
end Go.Proofs.ZP
end
