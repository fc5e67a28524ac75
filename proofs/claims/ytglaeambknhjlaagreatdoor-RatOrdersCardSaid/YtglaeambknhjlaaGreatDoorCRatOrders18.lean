/- Texts under the proof, joined by a program (prune.py): QPure5, Q221, Q222, QPure6, QRatRound. -/
import Derived.Test.YtglaeambknhjlaaGreatDoorCRatOrders17
import Derived.Test.YtglaeambknhjlaaGreatDoorCRatOrders13
import Derived.Test.YtglaeambknhjlaaGreatDoorCRatOrders15
import Derived.Test.YtglaeambknhjlaaGreatDoorCRatOrders11
import Derived.Test.YtglaeambknhjlaaGreatDoorCRatOrders14
set_option linter.unusedVariables false
set_option linter.unusedSimpArgs false
set_option exponentiation.threshold 20001
set_option maxHeartbeats 8000000
set_option maxRecDepth 100000
section
namespace Go.Proofs.ZQ
open Go.RowKit Go.Proofs.ZW.Wa Go.Proofs.ZP
theorem cmpR_sub (x y:Rat):cmpR x y=(x-y).num.sign:=by
 have hd:(0:Int)<(x.den:Int)*y.den:=Int.mul_pos (by have:=x.den_pos; omega) (by have:=y.den_pos; omega)
 have e:x-y=Rat.divInt (x.num*y.den-y.num*x.den) (x.den*y.den):=by
  rw [Rat.sub_eq_add_neg,zcX]
  have e1:(-y).num = -y.num:=Rat.neg_num y
  have e2:(-y).den=y.den:=rfl
  rw [e1,e2,Int.neg_mul]; rfl
 have h:=num_mul (x.num*y.den-y.num*x.den) (x.den*y.den) (by omega)
 rw [←e] at h
 have hp:(0:Int)<(x-y).den:=by have:=(x-y).den_pos; omega
 unfold cmpR
 refine (sign_scale hd hp ?_).symm
 rw [h,Int.mul_comm]
theorem Compare_Fr {x y:Rat} {k:Nat} (hx:Sz k x) (hy:Sz k y) (hk:k≤1000000):c2_Compare.f (Fr x).1 (Fr x).2.1 (Fr x).2.2 (Fr y).1 (Fr y).2.1 (Fr y).2.2=some (cmpR x y):=by
 unfold c2_Compare.f
 have h:=(Plus_Fr hx (neg_sz hy) hk).1
 rw [←Rat.sub_eq_add_neg] at h
 rw [Minus_Fr,Option.bind_some,h,Option.bind_some,cmpR_sub]
 generalize x-y=d
 show (if (T d.num.natAbs).toList=([48]:List UInt8) then _ else (if decide (d.num<0)=true then _ else _))=_
 by_cases h0:d.num=0
 ·rw [if_pos (b48.2 (by rw [h0]; rfl)),h0]; rfl
 ·rw [if_neg (fun e=>h0 (by have:=T_inj (b48.1 e); omega))]
  by_cases h1:d.num<0
  ·rw [if_pos (decide_eq_true h1),Int.sign_eq_neg_one_of_neg h1]
  ·rw [if_neg (by simpa using h1),Int.sign_eq_one_of_pos (by omega)]
theorem floor_sgn (x:Rat):x.floor=sgn (decide (x.num<0)) (if x.num<0∧x.num.natAbs%x.den≠0 then x.num.natAbs/x.den+1 else x.num.natAbs/x.den):=by
 rw [Rat.floor_def]
 have hd:=x.den_pos
 by_cases h:x.num<0
 ·rw [decide_eq_true h]
  have e:x.num = -(x.num.natAbs:Int):=by omega
  have e3:∀ n:Nat,sgn true n = -(n:Int):=fun _=>rfl
  rw [e3]
  have h1:=Nat.div_add_mod x.num.natAbs x.den
  have h2:=Nat.mod_lt x.num.natAbs hd
  generalize hm:x.num.natAbs=m at *
  generalize hb:x.den=b at *
  by_cases hz:m%b=0
  ·rw [if_neg (fun k=>k.2 hz),e]
   refine (show (-(m:Int))/b=_∧(-(m:Int))%b=0 from (Int.ediv_emod_unique (by omega)).2 ⟨?_,by omega,by omega⟩).1
   rw [hz,Nat.add_zero] at h1
   have:((b*(m/b):Nat):Int)=m:=by rw [h1]
   rw [Int.natCast_mul] at this
   rw [Int.mul_neg]; omega
  ·rw [if_pos ⟨h,hz⟩,e]
   refine (show (-(m:Int))/b=_∧(-(m:Int))%b=(b:Int)-((m%b:Nat):Int) from (Int.ediv_emod_unique (by omega)).2 ⟨?_,by omega,by omega⟩).1
   have:((b*(m/b)+m%b:Nat):Int)=m:=by rw [h1]
   rw [Int.natCast_add,Int.natCast_mul] at this
   rw [Int.natCast_add,Int.mul_neg,Int.mul_add]
   omega
 ·rw [decide_eq_false h,if_neg (fun k=>h k.1)]
  have e:x.num=(x.num.natAbs:Int):=by omega
  have e3:∀ n:Nat,sgn false n=(n:Int):=fun _=>rfl
  rw [e3,Int.natCast_ediv]
  conv=>lhs; rw [e]
theorem down_ev {x:Rat} {k:Nat} (hx:Sz k x) (hk:k≤1000000):Ev (fun n=>c2_Down.f n (Fr x).1 (Fr x).2.1 (Fr x).2.2) (Fr ((x.floor:Int):Rat)):=by
 obtain ⟨h1,h2⟩:=hx
 have hd:=x.den_pos
 have hq:(T (x.num.natAbs/x.den)).size≤k:=Nat.le_trans (za7 (Nat.div_le_self _ _)) h1
 have h11:(T 1).size≤1:=by rw [←T_1]; decide
 have hq1:=zcZ (x.num.natAbs/x.den) 1 (k+1) (by omega) (by omega)
 unfold c2_Down.f
 refine Ev.congr (f:=fun n=>if decide (x.num<0)=true then c2_Down.j0 n (T (x.num.natAbs/x.den)) ((T (x.num.natAbs%x.den)).toList != ([48]:List UInt8)) (decide (x.num<0)) (T x.num.natAbs) (T x.den) else c2_Down.j0 n (T (x.num.natAbs/x.den)) false (decide (x.num<0)) (T x.num.natAbs) (T x.den)) (fun n => ?_) ?_
 ·show (c1_Divide.f (T x.num.natAbs) (T x.den)).bind _=_
  rw [zdC (by omega) (by omega) hd,Option.bind_some]; rfl
 rw [zcU,floor_sgn]
 have hF:Ev (fun n=>c2_Down.j0 n (T (x.num.natAbs/x.den)) false (decide (x.num<0)) (T x.num.natAbs) (T x.den)) (Fr (Rat.divInt (sgn (decide (x.num<0)) (x.num.natAbs/x.den)) 1)):=by
  refine Ev.step (f:=fun _=>some (Fr (Rat.divInt (sgn (decide (x.num<0)) (x.num.natAbs/x.den)) 1))) (fun n => ?_) (Ev.now _)
  simp only [c2_Down.j0]
  have hl:=zcz (decide (x.num<0)) (x.num.natAbs/x.den) 1 (by decide) (by omega) (by omega)
  rw [if_neg (by decide),T_1,hl,Option.bind_some]; rfl
 have hT:Ev (fun n=>c2_Down.j0 n (T (x.num.natAbs/x.den)) true (decide (x.num<0)) (T x.num.natAbs) (T x.den)) (Fr (Rat.divInt (sgn (decide (x.num<0)) (x.num.natAbs/x.den+1)) 1)):=by
  refine Ev.step (f:=fun _=>some (Fr (Rat.divInt (sgn (decide (x.num<0)) (x.num.natAbs/x.den+1)) 1))) (fun n => ?_) (Ev.now _)
  simp only [c2_Down.j0]
  have hl:=zcz (decide (x.num<0)) (x.num.natAbs/x.den+1) 1 (by decide) (by omega) (by omega)
  rw [if_pos trivial,T_1,Plus_T (by omega) (by omega),Option.bind_some,hl,Option.bind_some]; rfl
 by_cases h:x.num<0
 ·refine Ev.congr (fun n=>if_pos (decide_eq_true h)) ?_
  by_cases hz:x.num.natAbs%x.den=0
  ·have hb:((T (x.num.natAbs%x.den)).toList != ([48]:List UInt8))=false:=by rw [b48.2 (by rw [hz])]; rfl
   rw [hb,if_neg (fun k=>k.2 hz)]
   exact hF
  ·have hb:((T (x.num.natAbs%x.den)).toList != ([48]:List UInt8))=true:=bne_iff_ne.2 (fun e=>hz (T_inj (b48.1 e)))
   rw [hb,if_pos ⟨h,hz⟩]
   exact hT
 ·refine Ev.congr (fun n=>if_neg (by simpa using h)) ?_
  rw [if_neg (fun k=>h k.1)]
  exact hF
end Go.Proofs.ZQ
end
section
namespace Go.Proofs.ZQ
open Go.RowKit Go.Proofs.ZW.Wa Go.Proofs.ZW.Wb Go.Proofs.ZW.Wc
attribute [local go_sem] zaL zaJ zaS zaR zaC zaB zaK zaI
noncomputable def c2_Rounded.f (a0_0:Bool) (a0_1:ByteArray) (a0_2:ByteArray) (a1:Int):Option (Bool×ByteArray×ByteArray):=(c2_Steps.f a0_0 a0_1 a0_2 a1).bind fun t841=>(if a1≥0 then ((c2_Zeros.f a1).bind fun t842=>(if 1+t842.size≤9223372036854775807 then ((c2_Lowest.f a0_0 t841 ((⟨#[49]⟩:ByteArray)++t842)).bind fun bt843=>(some (bt843.1,bt843.2.1,bt843.2.2))) else (none))) else ((c2_Zeros.f (wrap64 (-a1))).bind fun t846=>(if 1+t846.size≤9223372036854775807 then ((c1_Times.f t841 ((⟨#[49]⟩:ByteArray)++t846)).bind fun t847=>((c2_Lowest.f a0_0 t847 (⟨#[49]⟩:ByteArray)).bind fun bt848=>(some (bt848.1,bt848.2.1,bt848.2.2)))) else (none))))
noncomputable def c2_Rounded.T3:Bool×List (List Nat×List Nat):=(true,[([],[]),([0],[0]),([],[]),([],[]),([3],[3]),([4],[4]),([1,2,5,4],[1,2,5]),([6,6,0,1,2,3,4,5,6],[6])])
noncomputable def c2_Rounded.B3:List Nat:=[0,1,0,0,8,24,63,127]
theorem c2_Rounded.tab3:rtab .any (opsOf Tryz.f137 3)=c2_Rounded.T3:=by kernel_rfl
theorem c2_Rounded.bits3:waitsOk c2_Rounded.T3.2 c2_Rounded.B3=true:=by kernel_rfl
noncomputable def c2_Rounded.T4:Bool×List (List Nat×List Nat):=(true,[([],[]),([0],[0]),([],[]),([],[]),([3],[3]),([4],[4]),([5],[5]),([2,6,5],[2,6]),([1,7,7],[1,7]),([8,8,0,1,2,3,4,5,6,7,8],[8])])
noncomputable def c2_Rounded.B4:List Nat:=[0,1,0,0,8,24,56,124,255,511]
theorem c2_Rounded.tab4:rtab .any (opsOf Tryz.f137 4)=c2_Rounded.T4:=by kernel_rfl
theorem c2_Rounded.bits4:waitsOk c2_Rounded.T4.2 c2_Rounded.B4=true:=by kernel_rfl
theorem c2_Rounded.calls (a0_0:Bool) (a0_1:ByteArray) (a0_2:ByteArray) (a1:Int) (r1:Bool) (r2:ByteArray) (r3:ByteArray) (w:World) (h:c2_Rounded.f a0_0 a0_1 a0_2 a1=some (r1,r2,r3)) :
  Calls Tryz.prog 137 #[.agg #[.bool a0_0,.string a0_1,.string a0_2],.int .i64 a1] w fun e w'=>e = .returned (.agg #[.bool r1,.string r2,.string r3])∧Below w.heap.size w w':=by
 have hu66:=Tryz.underlying66
 have HB:=Aside0.mk (Below.refl w.heap.size w)
 have H:((c2_Steps.f a0_0 a0_1 a0_2 a1).bind fun t841=>(if a1≥0 then ((c2_Zeros.f a1).bind fun t842=>(if 1+t842.size≤9223372036854775807 then ((c2_Lowest.f a0_0 t841 ((⟨#[49]⟩:ByteArray)++t842)).bind fun bt843=>(some (bt843.1,bt843.2.1,bt843.2.2))) else (none))) else ((c2_Zeros.f (wrap64 (-a1))).bind fun t846=>(if 1+t846.size≤9223372036854775807 then ((c1_Times.f t841 ((⟨#[49]⟩:ByteArray)++t846)).bind fun t847=>((c2_Lowest.f a0_0 t847 (⟨#[49]⟩:ByteArray)).bind fun bt848=>(some (bt848.1,bt848.2.1,bt848.2.2)))) else (none)))))=some (r1,r2,r3):=h
 clear h
 replace H:=Option.bind_eq_some_iff.mp H
 obtain ⟨t841,A30,H⟩:=H
 replace H:(if a1≥0 then ((c2_Zeros.f a1).bind fun t842=>(if 1+t842.size≤9223372036854775807 then ((c2_Lowest.f a0_0 t841 ((⟨#[49]⟩:ByteArray)++t842)).bind fun bt843=>(some (bt843.1,bt843.2.1,bt843.2.2))) else (none))) else ((c2_Zeros.f (wrap64 (-a1))).bind fun t846=>(if 1+t846.size≤9223372036854775807 then ((c1_Times.f t841 ((⟨#[49]⟩:ByteArray)++t846)).bind fun t847=>((c2_Lowest.f a0_0 t847 (⟨#[49]⟩:ByteArray)).bind fun bt848=>(some (bt848.1,bt848.2.1,bt848.2.2)))) else (none))))=some (r1,r2,r3):=H
 have A3:=Aside0.mk A30
 clear A30
 by_cases c4:a1≥0
 ·rw [if_pos c4] at H
  have c4b0:decide (0≤a1)=true:=decide_eq_true c4
  clear c4
  replace H:=Option.bind_eq_some_iff.mp H
  obtain ⟨t842,A50,H⟩:=H
  replace H:(if 1+t842.size≤9223372036854775807 then ((c2_Lowest.f a0_0 t841 ((⟨#[49]⟩:ByteArray)++t842)).bind fun bt843=>(some (bt843.1,bt843.2.1,bt843.2.2))) else (none))=some (r1,r2,r3):=H
  have A5:=Aside0.mk A50
  clear A50
  by_cases c6:1+t842.size≤9223372036854775807
  ·rw [if_pos c6] at H
   have c6b0:=eq_true c6
   have c6b1:decide (1+t842.size≤9223372036854775807)=true:=decide_eq_true c6
   try have c6b2:(9223372036854775807<1+t842.size)=False:=eq_false (Nat.not_lt.2 c6)
   replace H:=Option.bind_eq_some_iff.mp H
   obtain ⟨⟨t843,t844,t845⟩,A70,H⟩:=H
   replace H:(some (t843,t844,t845))=some (r1,r2,r3):=H
   have A7:=Aside0.mk A70
   clear A70
   simp only [Option.some.injEq,Prod.mk.injEq] at H
   obtain ⟨rfl,rfl,rfl⟩:=H
   go_enter Tryz.func137,Tryz.ntmps137
   try go_wp2_with (first|((with_reducible refine zaD (N:=2) rfl ?_); refine zaH ?hg (N:=2) ?hd (cs:=#[.bool a0_0,.string a0_1,.string a0_2]) (t:=66) ?hr ?_; (case hd=>rfl); (case hg=>rfl); (case hr=>first|(go_simp; done)|(go_simp; rfl)); intro gb839 hg w8 hbox hb; have n0_:=Aside0.mk (zak (by repeat (first|(with_reducible first|exact HB.out|apply zaa|apply zab|apply zac)|exact HB.out)) hb); have n1_:=Aside0.mk (hbox); have n2_:=Aside0.mk ((by rw [hg]; exact (zan (by repeat (first|(with_reducible first|exact HB.out|apply zaa|apply zab|apply zac)|exact HB.out))):w.heap.size≤gb839)); have n3_:=Aside0.mk ((by rw [hg]; exact (zan (by repeat (first|(with_reducible first|exact HB.out|apply zaa|apply zab|apply zac)|exact HB.out))):w.heap.size≤gb839)); clear HB; have HB:=n0_; have BK839:=n1_; have GW839:=n2_; have GE839:=n3_; clear n0_ n1_ n2_ n3_; clear hb hbox hg)|((with_reducible refine zaD (N:=4) rfl ?_); refine zaH ?hg (N:=4) ?hd (cs:=#[.bool false,.string (⟨#[]⟩:ByteArray),.string (⟨#[]⟩:ByteArray)]) (t:=66) ?hr ?_; (case hd=>rfl); (case hg=>rfl); (case hr=>first|(go_simp; done)|(go_simp; rfl)); intro gb840 hg w9 hbox hb; have n0_:=Aside0.mk (zaq (g:=gb839) (o:=.cells #[.bool a0_0,.string a0_1,.string a0_2] 66 (0,0)) (by (with_reducible repeat (first|refine zah ?_ _|refine zaj ?_|refine zai ?_ _)); exact BK839.out) hb); have n1_:=Aside0.mk (zak (by repeat (first|(with_reducible first|exact HB.out|apply zaa|apply zab|apply zac|refine zag ?_ GE839.out)|exact HB.out)) hb); have n2_:=Aside0.mk (hbox); have n3_:=Aside0.mk ((by rw [hg]; exact (zan (by repeat (first|(with_reducible first|exact HB.out|apply zaa|apply zab|apply zac|refine zag ?_ GE839.out)|exact HB.out))):w.heap.size≤gb840)); have n4_:=Aside0.mk ((by rw [hg]; exact (zan (by repeat (first|(with_reducible first|exact HB.out|apply zaa|apply zab|apply zac|refine zag ?_ GE839.out)|exact HB.out))):w.heap.size≤gb840)); have n5_:=Aside0.mk ((by rw [hg]; exact Nat.ne_of_lt (zas (g:=gb839) (o:=.cells #[.bool a0_0,.string a0_1,.string a0_2] 66 (0,0)) (by (with_reducible repeat (first|refine zah ?_ _|refine zaj ?_|refine zai ?_ _)); exact BK839.out)):gb839≠gb840)); have n6_:=Aside0.mk ((by rw [hg]; exact Nat.ne_of_gt (zas (g:=gb839) (o:=.cells #[.bool a0_0,.string a0_1,.string a0_2] 66 (0,0)) (by (with_reducible repeat (first|refine zah ?_ _|refine zaj ?_|refine zai ?_ _)); exact BK839.out)):gb840≠gb839)); clear BK839; clear HB; have BK839:=n0_; have HB:=n1_; have BK840:=n2_; have GW840:=n3_; have GE840:=n4_; have NB839_840:=n5_; have NB840_839:=n6_; clear n0_ n1_ n2_ n3_ n4_ n5_ n6_; clear hb hbox hg; have hnb10:=NB839_840.out; have hnc10:=NB840_839.out; have hcz11_0:w9.cell? ⟨gb839,0,none⟩=some (.bool a0_0):=(zaf BK839.out 0).trans rfl; have hcz11_1:w9.cell? ⟨gb839,1,none⟩=some (.string a0_1):=(zaf BK839.out 1).trans rfl; have hcz11_2:w9.cell? ⟨gb839,2,none⟩=some (.string a0_2):=(zaf BK839.out 2).trans rfl; have hfz11_0:=zad BK839.out 0; have hfz11_1:=zad BK839.out 1; have hfz11_2:=zad BK839.out 2)|((with_reducible refine zap (f:=96) rfl ?_); refine zaE (some 8) rfl rfl Tryz.func96 (by kernel_rfl) rfl #[.agg #[.bool a0_0,.string a0_1,.string a0_2],.int .i64 a1] rfl (by (try simp only [List.map_toArray,List.map_cons,List.map_nil]); first|done|rfl|(simp only [List.length_drop,List.length_take]; rfl)) ?_; (with_reducible refine (c2_Steps.calls a0_0 a0_1 a0_2 a1 t841 _ A3.out).mono ?_); rintro e w12 ⟨rfl,hb⟩; refine ⟨_,rfl,?_⟩; have n0_:=Aside0.mk (zaq (g:=gb839) (o:=.cells #[.bool a0_0,.string a0_1,.string a0_2] 66 (0,0)) (by (with_reducible repeat (first|refine zah ?_ _|refine zaj ?_|refine zai ?_ _)); exact BK839.out) hb); have n1_:=Aside0.mk (zaq (g:=gb840) (o:=.cells #[.bool false,.string (⟨#[]⟩:ByteArray),.string (⟨#[]⟩:ByteArray)] 66 (0,0)) (by (with_reducible repeat (first|refine zah ?_ _|refine zaj ?_|refine zai ?_ _)); exact BK840.out) hb); have n2_:=Aside0.mk (zak (by repeat (first|(with_reducible first|exact HB.out|apply zaa|apply zab|apply zac|refine zag ?_ GE839.out|refine zag ?_ GE840.out)|exact HB.out)) hb); clear BK839; clear BK840; clear HB; have BK839:=n0_; have BK840:=n1_; have HB:=n2_; clear n0_ n1_ n2_; (try clear hb); (try clear hb2); (try clear hk); (try clear hi)))
   have n0_:=Aside0.mk (zaj BK839.out)
   have n1_:=Aside0.mk (zaj BK840.out)
   have n2_:=Aside0.mk (zac HB.out)
   clear BK839
   clear BK840
   clear HB
   have BK839:=n0_
   have BK840:=n1_
   have HB:=n2_
   clear n0_ n1_ n2_
   refine start_ (n:=8) (S:=fun w'=>w'.cell? ⟨gb839,0,none⟩=some (.bool a0_0)∧w'.cell? ⟨gb839,1,none⟩=some (.string a0_1)∧w'.cell? ⟨gb839,2,none⟩=some (.string a0_2)) (ds:=[]) #[false,false,false,false,false,false,false,false] (by kernel_rfl) rfl rfl ⟨(zaf BK839.out 0).trans rfl,(zaf BK839.out 1).trans rfl,(zaf BK839.out 2).trans rfl⟩ (fun hHeld => ?_); refine zcE c2_Rounded.tab3 c2_Rounded.bits3 (fun HT_ HW_ => ?_)
   generalize w12.drew=w13 at BK839 BK840 HB hHeld ⊢
   refine pure_ (i:=0) (N:=some 11) (v:=?_) (a':=?_) #[true,false,false,false,false,false,false,false] rfl rfl (za0 HT_.out (by kernel_rfl)) (fun _ _ _ h=>h) (Or.inl ⟨by rfl,?_⟩) ?_ ?_
   rotate_left
   ·intro w'
    go_simp
    with_reducible rfl
   rotate_left
   ·simp only [Act.put,List.setIfInBounds_toArray,List.set_cons_zero,List.set_cons_succ,i64_w,i32_w]
    rfl
   refine pure_ (i:=2) (N:=some 13) (v:=?_) (a':=?_) #[true,false,true,false,false,false,false,false] rfl rfl (za0 HT_.out (by kernel_rfl)) (fun _ _ _ h=>h) (Or.inl ⟨by rfl,?_⟩) ?_ ?_
   rotate_left
   ·intro w'
    go_simp
    with_reducible rfl
   rotate_left
   ·simp only [Act.put,List.setIfInBounds_toArray,List.set_cons_zero,List.set_cons_succ,i64_w,i32_w]
    rfl
   refine pure_ (i:=3) (N:=some 14) (v:=?_) (a':=?_) #[true,false,true,true,false,false,false,false] rfl rfl (za0 HT_.out (by kernel_rfl)) (fun _ _ _ h=>h) (Or.inl ⟨by rfl,?_⟩) ?_ ?_
   rotate_left
   ·intro w'
    go_simp
    with_reducible rfl
   rotate_left
   ·simp only [Act.put,List.setIfInBounds_toArray,List.set_cons_zero,List.set_cons_succ,i64_w,i32_w]
    rfl
   refine take_ (i:=1) (N:=some 12) (v:=?_) (a':=?_) #[true,true,true,true,false,false,false,false] rfl rfl (zcc HT_.out HW_.out (by kernel_rfl)) (fun _ _ _ h=>h) (Or.inl ⟨by rfl,?_⟩) hHeld ?_ ?_
   rotate_left
   ·rintro w' ⟨s0,s1,s2⟩
    go_simp
    with_reducible rfl
   rotate_left
   ·simp only [Act.put,List.setIfInBounds_toArray,List.set_cons_zero,List.set_cons_succ,i64_w,i32_w]
    rfl
   refine one_ (i:=4) (N:=some 15) #[true,true,true,true,true,false,false,false] rfl rfl (zb8 HT_.out (by kernel_rfl)) (by decide) (fun K hK => ?_)
   refine goes_ Tryz.func65 (by kernel_rfl) rfl #[.int .i64 a1] (by rfl) rfl rfl (by (try simp only [List.map_toArray,List.map_cons,List.map_nil]); first|done|rfl|(simp only [List.length_drop,List.length_take]; rfl)) ?_
   with_reducible refine (c2_Zeros.calls a1 t842 _ A5.out).mono ?_
   rintro e w14 ⟨rfl,hb⟩
   refine ⟨_,rfl,?_⟩
   have n0_:=Aside0.mk (zaq (g:=gb839) (o:=.cells #[.bool a0_0,.string a0_1,.string a0_2] 66 (0,0)) (by (with_reducible repeat (first|refine zah ?_ _|refine zaj ?_|refine zai ?_ _)); exact BK839.out) hb)
   have n1_:=Aside0.mk (zaq (g:=gb840) (o:=.cells #[.bool false,.string (⟨#[]⟩:ByteArray),.string (⟨#[]⟩:ByteArray)] 66 (0,0)) (by (with_reducible repeat (first|refine zah ?_ _|refine zaj ?_|refine zai ?_ _)); exact BK840.out) hb)
   have n2_:=Aside0.mk (zak (by repeat (first|(with_reducible first|exact HB.out|apply zaa|apply zab|apply zac|refine zag ?_ GE839.out|refine zag ?_ GE840.out)|exact HB.out)) hb)
   clear BK839
   clear BK840
   clear HB
   have BK839:=n0_
   have BK840:=n1_
   have HB:=n2_
   clear n0_ n1_ n2_
   (try clear hb)
   (try clear hb2)
   (try clear hk)
   (try clear hi)
   refine hK.out _ _ ⟨(zaf BK839.out 0).trans rfl,(zaf BK839.out 1).trans rfl,(zaf BK839.out 2).trans rfl⟩ (fun hHeld => ?_)
   clear hK K
   refine norm_ (a':=?_) ?_ ?_
   rotate_left
   ·show Act.put _ (some 15) _=_
    simp only [Act.put,List.setIfInBounds_toArray,List.set_cons_zero,List.set_cons_succ,i64_w,i32_w]
    rfl
   refine pure_ (i:=5) (N:=some 16) (v:=?_) (a':=?_) #[true,true,true,true,true,true,false,false] rfl rfl (za0 HT_.out (by kernel_rfl)) (fun _ _ _ h=>h) (Or.inl ⟨by rfl,?_⟩) ?_ ?_
   rotate_left
   ·intro w'
    go_simp
    with_reducible rfl
   rotate_left
   ·simp only [Act.put,List.setIfInBounds_toArray,List.set_cons_zero,List.set_cons_succ,i64_w,i32_w]
    rfl
   refine one_ (i:=6) (N:=some 17) #[true,true,true,true,true,true,true,false] rfl rfl (zb8 HT_.out (by kernel_rfl)) (by decide) (fun K hK => ?_)
   refine goes_ Tryz.func111 (by kernel_rfl) rfl #[.bool a0_0,.string t841,.string ((⟨#[49]⟩:ByteArray)++t842)] (by rfl) rfl rfl (by (try simp only [List.map_toArray,List.map_cons,List.map_nil]); first|done|rfl|(simp only [List.length_drop,List.length_take]; rfl)) ?_
   with_reducible refine (c2_Lowest.calls a0_0 t841 ((⟨#[49]⟩:ByteArray)++t842) t843 t844 t845 _ A7.out).mono ?_
   rintro e w15 ⟨rfl,hb⟩
   refine ⟨_,rfl,?_⟩
   have n0_:=Aside0.mk (zaq (g:=gb839) (o:=.cells #[.bool a0_0,.string a0_1,.string a0_2] 66 (0,0)) (by (with_reducible repeat (first|refine zah ?_ _|refine zaj ?_|refine zai ?_ _)); exact BK839.out) hb)
   have n1_:=Aside0.mk (zaq (g:=gb840) (o:=.cells #[.bool false,.string (⟨#[]⟩:ByteArray),.string (⟨#[]⟩:ByteArray)] 66 (0,0)) (by (with_reducible repeat (first|refine zah ?_ _|refine zaj ?_|refine zai ?_ _)); exact BK840.out) hb)
   have n2_:=Aside0.mk (zak (by repeat (first|(with_reducible first|exact HB.out|apply zaa|apply zab|apply zac|refine zag ?_ GE839.out|refine zag ?_ GE840.out)|exact HB.out)) hb)
   clear BK839
   clear BK840
   clear HB
   have BK839:=n0_
   have BK840:=n1_
   have HB:=n2_
   clear n0_ n1_ n2_
   (try clear hb)
   (try clear hb2)
   (try clear hk)
   (try clear hi)
   refine hK.out _ _ ⟨(zaf BK839.out 0).trans rfl,(zaf BK839.out 1).trans rfl,(zaf BK839.out 2).trans rfl⟩ (fun hHeld => ?_)
   clear hK K
   refine norm_ (a':=?_) ?_ ?_
   rotate_left
   ·show Act.put _ (some 17) _=_
    simp only [Act.put,List.setIfInBounds_toArray,List.set_cons_zero,List.set_cons_succ,i64_w,i32_w]
    rfl
   refine one_ (i:=7) (N:=none) #[true,true,true,true,true,true,true,true] rfl rfl (zb8 HT_.out (by kernel_rfl)) (by decide) (fun K hK => ?_)
   have hs16:w15.cell? ⟨gb840,0,none⟩=some (.bool false):=(zaf BK840.out 0).trans rfl
   have hfs16:=zad BK840.out 0
   have hns16_0:=NB839_840.out
   have hms16_0:=NB840_839.out
   have hs17:w15.cell? ⟨gb840,1,none⟩=some (.string (⟨#[]⟩:ByteArray)):=(zaf BK840.out 1).trans rfl
   have hfs17:=zad BK840.out 1
   have hns17_0:=NB839_840.out
   have hms17_0:=NB840_839.out
   have hs18:w15.cell? ⟨gb840,2,none⟩=some (.string (⟨#[]⟩:ByteArray)):=(zaf BK840.out 2).trans rfl
   have hfs18:=zad BK840.out 2
   have hns18_0:=NB839_840.out
   have hms18_0:=NB840_839.out
   refine skip_ (w1:=?_) (by rfl) rfl ?_ ?_
   rotate_left
   ·go_simp
    rfl
   refine hK.out _ _ ⟨((zaN (p:=⟨gb840,_,none⟩) NB839_840.out _).trans (((zaN (p:=⟨gb840,_,none⟩) NB839_840.out _).trans (((zaN (p:=⟨gb840,_,none⟩) NB839_840.out _).trans (hHeld.1)))))),((zaN (p:=⟨gb840,_,none⟩) NB839_840.out _).trans (((zaN (p:=⟨gb840,_,none⟩) NB839_840.out _).trans (((zaN (p:=⟨gb840,_,none⟩) NB839_840.out _).trans (hHeld.2.1)))))),((zaN (p:=⟨gb840,_,none⟩) NB839_840.out _).trans (((zaN (p:=⟨gb840,_,none⟩) NB839_840.out _).trans (((zaN (p:=⟨gb840,_,none⟩) NB839_840.out _).trans (hHeld.2.2))))))⟩ (fun hHeld => ?_)
   clear hK K
   refine done_ (done_of HT_.out (by kernel_rfl)) ?_
   try go_wp2
   refine bodyPost_ret (results_cell_row rfl _ _ gb840 66 #[.bool t843,.string t844,.string t845] (0,0) _ rfl (by (with_reducible repeat (first|refine zah ?_ _|refine zaj ?_|refine zai ?_ _)); refine zax (cs:=#[.bool t843,.string t844,.string (⟨#[]⟩:ByteArray)]) ?_ 2 _ rfl; (with_reducible repeat (first|refine zah ?_ _|refine zaj ?_|refine zai ?_ _)); refine zax (cs:=#[.bool t843,.string (⟨#[]⟩:ByteArray),.string (⟨#[]⟩:ByteArray)]) ?_ 1 _ rfl; (with_reducible repeat (first|refine zah ?_ _|refine zaj ?_|refine zai ?_ _)); refine zax (cs:=#[.bool false,.string (⟨#[]⟩:ByteArray),.string (⟨#[]⟩:ByteArray)]) ?_ 0 _ rfl; (with_reducible repeat (first|refine zah ?_ _|refine zaj ?_|refine zai ?_ _)); exact BK840.out) Tryz.underlying66 rfl (by kernel_rfl)) rfl ?_
   exact ⟨by first|rfl|(simp [zam,zal]<;>rfl)|(simp [*,zam,zal]<;>rfl),by repeat (first|(with_reducible first|exact HB.out|apply zaa|apply zab|apply zac|refine zag ?_ GE839.out|refine zag ?_ GE840.out)|exact HB.out)⟩
  ·rw [if_neg c6] at H
   exact absurd H (by simp)
 ·rw [if_neg c4] at H
  have c4b0:decide (0≤a1)=false:=decide_eq_false c4
  clear c4
  replace H:=Option.bind_eq_some_iff.mp H
  obtain ⟨t846,A190,H⟩:=H
  replace H:(if 1+t846.size≤9223372036854775807 then ((c1_Times.f t841 ((⟨#[49]⟩:ByteArray)++t846)).bind fun t847=>((c2_Lowest.f a0_0 t847 (⟨#[49]⟩:ByteArray)).bind fun bt848=>(some (bt848.1,bt848.2.1,bt848.2.2)))) else (none))=some (r1,r2,r3):=H
  have A19:=Aside0.mk A190
  clear A190
  by_cases c20:1+t846.size≤9223372036854775807
  ·rw [if_pos c20] at H
   have c20b0:=eq_true c20
   have c20b1:decide (1+t846.size≤9223372036854775807)=true:=decide_eq_true c20
   try have c20b2:(9223372036854775807<1+t846.size)=False:=eq_false (Nat.not_lt.2 c20)
   replace H:=Option.bind_eq_some_iff.mp H
   obtain ⟨t847,A210,H⟩:=H
   replace H:((c2_Lowest.f a0_0 t847 (⟨#[49]⟩:ByteArray)).bind fun bt848=>(some (bt848.1,bt848.2.1,bt848.2.2)))=some (r1,r2,r3):=H
   have A21:=Aside0.mk A210
   clear A210
   replace H:=Option.bind_eq_some_iff.mp H
   obtain ⟨⟨t848,t849,t850⟩,A220,H⟩:=H
   replace H:(some (t848,t849,t850))=some (r1,r2,r3):=H
   have A22:=Aside0.mk A220
   clear A220
   simp only [Option.some.injEq,Prod.mk.injEq] at H
   obtain ⟨rfl,rfl,rfl⟩:=H
   go_enter Tryz.func137,Tryz.ntmps137
   try go_wp2_with (first|((with_reducible refine zaD (N:=2) rfl ?_); refine zaH ?hg (N:=2) ?hd (cs:=#[.bool a0_0,.string a0_1,.string a0_2]) (t:=66) ?hr ?_; (case hd=>rfl); (case hg=>rfl); (case hr=>first|(go_simp; done)|(go_simp; rfl)); intro gb839 hg w23 hbox hb; have n0_:=Aside0.mk (zak (by repeat (first|(with_reducible first|exact HB.out|apply zaa|apply zab|apply zac)|exact HB.out)) hb); have n1_:=Aside0.mk (hbox); have n2_:=Aside0.mk ((by rw [hg]; exact (zan (by repeat (first|(with_reducible first|exact HB.out|apply zaa|apply zab|apply zac)|exact HB.out))):w.heap.size≤gb839)); have n3_:=Aside0.mk ((by rw [hg]; exact (zan (by repeat (first|(with_reducible first|exact HB.out|apply zaa|apply zab|apply zac)|exact HB.out))):w.heap.size≤gb839)); clear HB; have HB:=n0_; have BK839:=n1_; have GW839:=n2_; have GE839:=n3_; clear n0_ n1_ n2_ n3_; clear hb hbox hg)|((with_reducible refine zaD (N:=4) rfl ?_); refine zaH ?hg (N:=4) ?hd (cs:=#[.bool false,.string (⟨#[]⟩:ByteArray),.string (⟨#[]⟩:ByteArray)]) (t:=66) ?hr ?_; (case hd=>rfl); (case hg=>rfl); (case hr=>first|(go_simp; done)|(go_simp; rfl)); intro gb840 hg w24 hbox hb; have n0_:=Aside0.mk (zaq (g:=gb839) (o:=.cells #[.bool a0_0,.string a0_1,.string a0_2] 66 (0,0)) (by (with_reducible repeat (first|refine zah ?_ _|refine zaj ?_|refine zai ?_ _)); exact BK839.out) hb); have n1_:=Aside0.mk (zak (by repeat (first|(with_reducible first|exact HB.out|apply zaa|apply zab|apply zac|refine zag ?_ GE839.out)|exact HB.out)) hb); have n2_:=Aside0.mk (hbox); have n3_:=Aside0.mk ((by rw [hg]; exact (zan (by repeat (first|(with_reducible first|exact HB.out|apply zaa|apply zab|apply zac|refine zag ?_ GE839.out)|exact HB.out))):w.heap.size≤gb840)); have n4_:=Aside0.mk ((by rw [hg]; exact (zan (by repeat (first|(with_reducible first|exact HB.out|apply zaa|apply zab|apply zac|refine zag ?_ GE839.out)|exact HB.out))):w.heap.size≤gb840)); have n5_:=Aside0.mk ((by rw [hg]; exact Nat.ne_of_lt (zas (g:=gb839) (o:=.cells #[.bool a0_0,.string a0_1,.string a0_2] 66 (0,0)) (by (with_reducible repeat (first|refine zah ?_ _|refine zaj ?_|refine zai ?_ _)); exact BK839.out)):gb839≠gb840)); have n6_:=Aside0.mk ((by rw [hg]; exact Nat.ne_of_gt (zas (g:=gb839) (o:=.cells #[.bool a0_0,.string a0_1,.string a0_2] 66 (0,0)) (by (with_reducible repeat (first|refine zah ?_ _|refine zaj ?_|refine zai ?_ _)); exact BK839.out)):gb840≠gb839)); clear BK839; clear HB; have BK839:=n0_; have HB:=n1_; have BK840:=n2_; have GW840:=n3_; have GE840:=n4_; have NB839_840:=n5_; have NB840_839:=n6_; clear n0_ n1_ n2_ n3_ n4_ n5_ n6_; clear hb hbox hg; have hnb25:=NB839_840.out; have hnc25:=NB840_839.out; have hcz26_0:w24.cell? ⟨gb839,0,none⟩=some (.bool a0_0):=(zaf BK839.out 0).trans rfl; have hcz26_1:w24.cell? ⟨gb839,1,none⟩=some (.string a0_1):=(zaf BK839.out 1).trans rfl; have hcz26_2:w24.cell? ⟨gb839,2,none⟩=some (.string a0_2):=(zaf BK839.out 2).trans rfl; have hfz26_0:=zad BK839.out 0; have hfz26_1:=zad BK839.out 1; have hfz26_2:=zad BK839.out 2)|((with_reducible refine zap (f:=96) rfl ?_); refine zaE (some 8) rfl rfl Tryz.func96 (by kernel_rfl) rfl #[.agg #[.bool a0_0,.string a0_1,.string a0_2],.int .i64 a1] rfl (by (try simp only [List.map_toArray,List.map_cons,List.map_nil]); first|done|rfl|(simp only [List.length_drop,List.length_take]; rfl)) ?_; (with_reducible refine (c2_Steps.calls a0_0 a0_1 a0_2 a1 t841 _ A3.out).mono ?_); rintro e w27 ⟨rfl,hb⟩; refine ⟨_,rfl,?_⟩; have n0_:=Aside0.mk (zaq (g:=gb839) (o:=.cells #[.bool a0_0,.string a0_1,.string a0_2] 66 (0,0)) (by (with_reducible repeat (first|refine zah ?_ _|refine zaj ?_|refine zai ?_ _)); exact BK839.out) hb); have n1_:=Aside0.mk (zaq (g:=gb840) (o:=.cells #[.bool false,.string (⟨#[]⟩:ByteArray),.string (⟨#[]⟩:ByteArray)] 66 (0,0)) (by (with_reducible repeat (first|refine zah ?_ _|refine zaj ?_|refine zai ?_ _)); exact BK840.out) hb); have n2_:=Aside0.mk (zak (by repeat (first|(with_reducible first|exact HB.out|apply zaa|apply zab|apply zac|refine zag ?_ GE839.out|refine zag ?_ GE840.out)|exact HB.out)) hb); clear BK839; clear BK840; clear HB; have BK839:=n0_; have BK840:=n1_; have HB:=n2_; clear n0_ n1_ n2_; (try clear hb); (try clear hb2); (try clear hk); (try clear hi)))
   have n0_:=Aside0.mk (zaj BK839.out)
   have n1_:=Aside0.mk (zaj BK840.out)
   have n2_:=Aside0.mk (zac HB.out)
   clear BK839
   clear BK840
   clear HB
   have BK839:=n0_
   have BK840:=n1_
   have HB:=n2_
   clear n0_ n1_ n2_
   refine start_ (n:=10) (S:=fun w'=>w'.cell? ⟨gb839,0,none⟩=some (.bool a0_0)∧w'.cell? ⟨gb839,1,none⟩=some (.string a0_1)∧w'.cell? ⟨gb839,2,none⟩=some (.string a0_2)) (ds:=[]) #[false,false,false,false,false,false,false,false,false,false] (by kernel_rfl) rfl rfl ⟨(zaf BK839.out 0).trans rfl,(zaf BK839.out 1).trans rfl,(zaf BK839.out 2).trans rfl⟩ (fun hHeld => ?_); refine zcE c2_Rounded.tab4 c2_Rounded.bits4 (fun HT_ HW_ => ?_)
   generalize w27.drew=w28 at BK839 BK840 HB hHeld ⊢
   refine pure_ (i:=0) (N:=some 18) (v:=?_) (a':=?_) #[true,false,false,false,false,false,false,false,false,false] rfl rfl (za0 HT_.out (by kernel_rfl)) (fun _ _ _ h=>h) (Or.inl ⟨by rfl,?_⟩) ?_ ?_
   rotate_left
   ·intro w'
    go_simp
    with_reducible rfl
   rotate_left
   ·simp only [Act.put,List.setIfInBounds_toArray,List.set_cons_zero,List.set_cons_succ,i64_w,i32_w]
    rfl
   refine pure_ (i:=2) (N:=some 20) (v:=?_) (a':=?_) #[true,false,true,false,false,false,false,false,false,false] rfl rfl (za0 HT_.out (by kernel_rfl)) (fun _ _ _ h=>h) (Or.inl ⟨by rfl,?_⟩) ?_ ?_
   rotate_left
   ·intro w'
    go_simp
    with_reducible rfl
   rotate_left
   ·simp only [Act.put,List.setIfInBounds_toArray,List.set_cons_zero,List.set_cons_succ,i64_w,i32_w]
    rfl
   refine pure_ (i:=3) (N:=some 21) (v:=?_) (a':=?_) #[true,false,true,true,false,false,false,false,false,false] rfl rfl (za0 HT_.out (by kernel_rfl)) (fun _ _ _ h=>h) (Or.inl ⟨by rfl,?_⟩) ?_ ?_
   rotate_left
   ·intro w'
    go_simp
    with_reducible rfl
   rotate_left
   ·simp only [Act.put,List.setIfInBounds_toArray,List.set_cons_zero,List.set_cons_succ,i64_w,i32_w]
    rfl
   refine pure_ (i:=4) (N:=some 22) (v:=?_) (a':=?_) #[true,false,true,true,true,false,false,false,false,false] rfl rfl (za0 HT_.out (by kernel_rfl)) (fun _ _ _ h=>h) (Or.inl ⟨by rfl,?_⟩) ?_ ?_
   rotate_left
   ·intro w'
    go_simp
    with_reducible rfl
   rotate_left
   ·simp only [Act.put,List.setIfInBounds_toArray,List.set_cons_zero,List.set_cons_succ,i64_w,i32_w]
    rfl
   refine take_ (i:=1) (N:=some 19) (v:=?_) (a':=?_) #[true,true,true,true,true,false,false,false,false,false] rfl rfl (zcc HT_.out HW_.out (by kernel_rfl)) (fun _ _ _ h=>h) (Or.inl ⟨by rfl,?_⟩) hHeld ?_ ?_
   rotate_left
   ·rintro w' ⟨s0,s1,s2⟩
    go_simp
    with_reducible rfl
   rotate_left
   ·simp only [Act.put,List.setIfInBounds_toArray,List.set_cons_zero,List.set_cons_succ,i64_w,i32_w]
    rfl
   refine one_ (i:=5) (N:=some 23) #[true,true,true,true,true,true,false,false,false,false] rfl rfl (zb8 HT_.out (by kernel_rfl)) (by decide) (fun K hK => ?_)
   refine goes_ Tryz.func65 (by kernel_rfl) rfl #[.int .i64 (wrap64 (-a1))] (by rfl) rfl rfl (by (try simp only [List.map_toArray,List.map_cons,List.map_nil]); first|done|rfl|(simp only [List.length_drop,List.length_take]; rfl)) ?_
   with_reducible refine (c2_Zeros.calls (wrap64 (-a1)) t846 _ A19.out).mono ?_
   rintro e w29 ⟨rfl,hb⟩
   refine ⟨_,rfl,?_⟩
   have n0_:=Aside0.mk (zaq (g:=gb839) (o:=.cells #[.bool a0_0,.string a0_1,.string a0_2] 66 (0,0)) (by (with_reducible repeat (first|refine zah ?_ _|refine zaj ?_|refine zai ?_ _)); exact BK839.out) hb)
   have n1_:=Aside0.mk (zaq (g:=gb840) (o:=.cells #[.bool false,.string (⟨#[]⟩:ByteArray),.string (⟨#[]⟩:ByteArray)] 66 (0,0)) (by (with_reducible repeat (first|refine zah ?_ _|refine zaj ?_|refine zai ?_ _)); exact BK840.out) hb)
   have n2_:=Aside0.mk (zak (by repeat (first|(with_reducible first|exact HB.out|apply zaa|apply zab|apply zac|refine zag ?_ GE839.out|refine zag ?_ GE840.out)|exact HB.out)) hb)
   clear BK839
   clear BK840
   clear HB
   have BK839:=n0_
   have BK840:=n1_
   have HB:=n2_
   clear n0_ n1_ n2_
   (try clear hb)
   (try clear hb2)
   (try clear hk)
   (try clear hi)
   refine hK.out _ _ ⟨(zaf BK839.out 0).trans rfl,(zaf BK839.out 1).trans rfl,(zaf BK839.out 2).trans rfl⟩ (fun hHeld => ?_)
   clear hK K
   refine norm_ (a':=?_) ?_ ?_
   rotate_left
   ·show Act.put _ (some 23) _=_
    simp only [Act.put,List.setIfInBounds_toArray,List.set_cons_zero,List.set_cons_succ,i64_w,i32_w]
    rfl
   refine pure_ (i:=6) (N:=some 24) (v:=?_) (a':=?_) #[true,true,true,true,true,true,true,false,false,false] rfl rfl (za0 HT_.out (by kernel_rfl)) (fun _ _ _ h=>h) (Or.inl ⟨by rfl,?_⟩) ?_ ?_
   rotate_left
   ·intro w'
    go_simp
    with_reducible rfl
   rotate_left
   ·simp only [Act.put,List.setIfInBounds_toArray,List.set_cons_zero,List.set_cons_succ,i64_w,i32_w]
    rfl
   refine one_ (i:=7) (N:=some 25) #[true,true,true,true,true,true,true,true,false,false] rfl rfl (zb8 HT_.out (by kernel_rfl)) (by decide) (fun K hK => ?_)
   refine goes_ Tryz.func131 (by kernel_rfl) rfl #[.string t841,.string ((⟨#[49]⟩:ByteArray)++t846)] (by rfl) rfl rfl (by (try simp only [List.map_toArray,List.map_cons,List.map_nil]); first|done|rfl|(simp only [List.length_drop,List.length_take]; rfl)) ?_
   with_reducible refine (c1_Times.calls t841 ((⟨#[49]⟩:ByteArray)++t846) t847 _ A21.out).mono ?_
   rintro e w30 ⟨rfl,hb⟩
   refine ⟨_,rfl,?_⟩
   have n0_:=Aside0.mk (zaq (g:=gb839) (o:=.cells #[.bool a0_0,.string a0_1,.string a0_2] 66 (0,0)) (by (with_reducible repeat (first|refine zah ?_ _|refine zaj ?_|refine zai ?_ _)); exact BK839.out) hb)
   have n1_:=Aside0.mk (zaq (g:=gb840) (o:=.cells #[.bool false,.string (⟨#[]⟩:ByteArray),.string (⟨#[]⟩:ByteArray)] 66 (0,0)) (by (with_reducible repeat (first|refine zah ?_ _|refine zaj ?_|refine zai ?_ _)); exact BK840.out) hb)
   have n2_:=Aside0.mk (zak (by repeat (first|(with_reducible first|exact HB.out|apply zaa|apply zab|apply zac|refine zag ?_ GE839.out|refine zag ?_ GE840.out)|exact HB.out)) hb)
   clear BK839
   clear BK840
   clear HB
   have BK839:=n0_
   have BK840:=n1_
   have HB:=n2_
   clear n0_ n1_ n2_
   (try clear hb)
   (try clear hb2)
   (try clear hk)
   (try clear hi)
   refine hK.out _ _ ⟨(zaf BK839.out 0).trans rfl,(zaf BK839.out 1).trans rfl,(zaf BK839.out 2).trans rfl⟩ (fun hHeld => ?_)
   clear hK K
   refine norm_ (a':=?_) ?_ ?_
   rotate_left
   ·show Act.put _ (some 25) _=_
    simp only [Act.put,List.setIfInBounds_toArray,List.set_cons_zero,List.set_cons_succ,i64_w,i32_w]
    rfl
   refine one_ (i:=8) (N:=some 26) #[true,true,true,true,true,true,true,true,true,false] rfl rfl (zb8 HT_.out (by kernel_rfl)) (by decide) (fun K hK => ?_)
   refine goes_ Tryz.func111 (by kernel_rfl) rfl #[.bool a0_0,.string t847,.string (⟨#[49]⟩:ByteArray)] (by rfl) rfl rfl (by (try simp only [List.map_toArray,List.map_cons,List.map_nil]); first|done|rfl|(simp only [List.length_drop,List.length_take]; rfl)) ?_
   with_reducible refine (c2_Lowest.calls a0_0 t847 (⟨#[49]⟩:ByteArray) t848 t849 t850 _ A22.out).mono ?_
   rintro e w31 ⟨rfl,hb⟩
   refine ⟨_,rfl,?_⟩
   have n0_:=Aside0.mk (zaq (g:=gb839) (o:=.cells #[.bool a0_0,.string a0_1,.string a0_2] 66 (0,0)) (by (with_reducible repeat (first|refine zah ?_ _|refine zaj ?_|refine zai ?_ _)); exact BK839.out) hb)
   have n1_:=Aside0.mk (zaq (g:=gb840) (o:=.cells #[.bool false,.string (⟨#[]⟩:ByteArray),.string (⟨#[]⟩:ByteArray)] 66 (0,0)) (by (with_reducible repeat (first|refine zah ?_ _|refine zaj ?_|refine zai ?_ _)); exact BK840.out) hb)
   have n2_:=Aside0.mk (zak (by repeat (first|(with_reducible first|exact HB.out|apply zaa|apply zab|apply zac|refine zag ?_ GE839.out|refine zag ?_ GE840.out)|exact HB.out)) hb)
   clear BK839
   clear BK840
   clear HB
   have BK839:=n0_
   have BK840:=n1_
   have HB:=n2_
   clear n0_ n1_ n2_
   (try clear hb)
   (try clear hb2)
   (try clear hk)
   (try clear hi)
   refine hK.out _ _ ⟨(zaf BK839.out 0).trans rfl,(zaf BK839.out 1).trans rfl,(zaf BK839.out 2).trans rfl⟩ (fun hHeld => ?_)
   clear hK K
   refine norm_ (a':=?_) ?_ ?_
   rotate_left
   ·show Act.put _ (some 26) _=_
    simp only [Act.put,List.setIfInBounds_toArray,List.set_cons_zero,List.set_cons_succ,i64_w,i32_w]
    rfl
   refine one_ (i:=9) (N:=none) #[true,true,true,true,true,true,true,true,true,true] rfl rfl (zb8 HT_.out (by kernel_rfl)) (by decide) (fun K hK => ?_)
   have hs32:w31.cell? ⟨gb840,0,none⟩=some (.bool false):=(zaf BK840.out 0).trans rfl
   have hfs32:=zad BK840.out 0
   have hns32_0:=NB839_840.out
   have hms32_0:=NB840_839.out
   have hs33:w31.cell? ⟨gb840,1,none⟩=some (.string (⟨#[]⟩:ByteArray)):=(zaf BK840.out 1).trans rfl
   have hfs33:=zad BK840.out 1
   have hns33_0:=NB839_840.out
   have hms33_0:=NB840_839.out
   have hs34:w31.cell? ⟨gb840,2,none⟩=some (.string (⟨#[]⟩:ByteArray)):=(zaf BK840.out 2).trans rfl
   have hfs34:=zad BK840.out 2
   have hns34_0:=NB839_840.out
   have hms34_0:=NB840_839.out
   refine skip_ (w1:=?_) (by rfl) rfl ?_ ?_
   rotate_left
   ·go_simp
    rfl
   refine hK.out _ _ ⟨((zaN (p:=⟨gb840,_,none⟩) NB839_840.out _).trans (((zaN (p:=⟨gb840,_,none⟩) NB839_840.out _).trans (((zaN (p:=⟨gb840,_,none⟩) NB839_840.out _).trans (hHeld.1)))))),((zaN (p:=⟨gb840,_,none⟩) NB839_840.out _).trans (((zaN (p:=⟨gb840,_,none⟩) NB839_840.out _).trans (((zaN (p:=⟨gb840,_,none⟩) NB839_840.out _).trans (hHeld.2.1)))))),((zaN (p:=⟨gb840,_,none⟩) NB839_840.out _).trans (((zaN (p:=⟨gb840,_,none⟩) NB839_840.out _).trans (((zaN (p:=⟨gb840,_,none⟩) NB839_840.out _).trans (hHeld.2.2))))))⟩ (fun hHeld => ?_)
   clear hK K
   refine done_ (done_of HT_.out (by kernel_rfl)) ?_
   try go_wp2
   refine bodyPost_ret (results_cell_row rfl _ _ gb840 66 #[.bool t848,.string t849,.string t850] (0,0) _ rfl (by (with_reducible repeat (first|refine zah ?_ _|refine zaj ?_|refine zai ?_ _)); refine zax (cs:=#[.bool t848,.string t849,.string (⟨#[]⟩:ByteArray)]) ?_ 2 _ rfl; (with_reducible repeat (first|refine zah ?_ _|refine zaj ?_|refine zai ?_ _)); refine zax (cs:=#[.bool t848,.string (⟨#[]⟩:ByteArray),.string (⟨#[]⟩:ByteArray)]) ?_ 1 _ rfl; (with_reducible repeat (first|refine zah ?_ _|refine zaj ?_|refine zai ?_ _)); refine zax (cs:=#[.bool false,.string (⟨#[]⟩:ByteArray),.string (⟨#[]⟩:ByteArray)]) ?_ 0 _ rfl; (with_reducible repeat (first|refine zah ?_ _|refine zaj ?_|refine zai ?_ _)); exact BK840.out) Tryz.underlying66 rfl (by kernel_rfl)) rfl ?_
   exact ⟨by first|rfl|(simp [zam,zal]<;>rfl)|(simp [*,zam,zal]<;>rfl),by repeat (first|(with_reducible first|exact HB.out|apply zaa|apply zab|apply zac|refine zag ?_ GE839.out|refine zag ?_ GE840.out)|exact HB.out)⟩
  ·rw [if_neg c20] at H
   exact absurd H (by simp)
noncomputable def c2_Round.j0:Nat→Int→Bool→ByteArray→ByteArray→Option (ByteArray×ByteArray×Int)
 | 0,_,_,_,_=>none
 | k+1,x1,x15,x852000,x852001=>if x15=true then (some ((⟨#[]⟩:ByteArray),(⟨#[]⟩:ByteArray),1)) else ((c2_Read.f k x852000 x852001).bind fun bt854=>((c2_Rounded.f bt854.1 bt854.2.1 bt854.2.2 x1).bind fun bt857=>((c2_Told.f k bt857.1 bt857.2.1 bt857.2.2).bind fun bt860=>(some (bt860.1,bt860.2.1,bt860.2.2)))))
noncomputable def c2_Round.f (k:Nat) (a0_0:ByteArray) (a0_1:ByteArray) (a1:Int):Option (ByteArray×ByteArray×Int):=(c2_Right.f k a0_0 a0_1).bind fun t853=>(if t853=true then (if a1<(-600) then (c2_Round.j0 k a1 true a0_0 a0_1) else (c2_Round.j0 k a1 (decide (a1>600)) a0_0 a0_1)) else (some ((⟨#[]⟩:ByteArray),(⟨#[]⟩:ByteArray),3)))
end Go.Proofs.ZQ
end
section
namespace Go.Proofs.ZQ
open Go.RowKit Go.Proofs.ZW.Wa Go.Proofs.ZP
theorem tenR_neg (q:Nat) (hq:0<q):tenR (-(q:Int))=Rat.divInt 1 ((10^q:Nat):Int):=by
  unfold tenR
  rw [if_pos (by omega),Int.natAbs_neg,Int.natAbs_natCast,zc6]
  have hi:((((10:Int)^q:Int)):Rat).num=(10:Int)^q:=rfl
  have hj:((((10:Int)^q:Int)):Rat).den=1:=rfl
  rw [hi,hj,Int.natCast_pow]; rfl
theorem tenR_pos (q:Nat):tenR (q:Int)=Rat.divInt ((10^q:Nat):Int) 1:=by
  have h:tenR (q:Int)=(((10:Int)^q:Int):Rat):=by unfold tenR; rw [if_neg (by omega),Int.natAbs_natCast]
  rw [h,zcU,Int.natCast_pow]; rfl
theorem near_frac (s : Bool) (a b : Nat) (hb : 0 < b) : evenR (Rat.divInt (sgn s a) b) = sgn s (near a b) := by
  obtain ⟨f1,f2,f3⟩:=zcK s a b hb
  rw [even_near]
  have hn:near (Rat.divInt (sgn s a) b).num.natAbs (Rat.divInt (sgn s a) b).den=near a b:=by
    refine near_div _ _ _ hb ?_
    rw [f1,f2]
    obtain ⟨u,hu⟩:=Nat.gcd_dvd_left a b
    obtain ⟨v,hv⟩:=Nat.gcd_dvd_right a b
    have hg:0<Nat.gcd a b:=Nat.gcd_pos_of_pos_right _ hb
    have hu' : a / Nat.gcd a b = u := by conv => lhs; lhs; rw [hu]
                                         exact Nat.mul_div_cancel_left _ hg
    have hv' : b / Nat.gcd a b = v := by conv => lhs; lhs; rw [hv]
                                         exact Nat.mul_div_cancel_left _ hg
    rw [hu',hv']
    conv=>lhs; rw [hv]
    conv=>rhs; rw [hu]
    rw [←Nat.mul_assoc,Nat.mul_comm u,Nat.mul_assoc]
  rw [hn,f3]
  by_cases h0:a=0
  · subst h0
    have:near 0 b=0:=by
      unfold near
      rw [Nat.zero_mod,Nat.zero_div]
      exact if_neg (by omega)
    rw [this]
    cases s<;>rfl
  · rw [decide_eq_true h0,Bool.and_true]
theorem even_down (x:Rat) (q:Nat) (hq:0<q):evenR (x*tenR (-(q:Int)))=sgn (decide (x.num<0)) (near x.num.natAbs (x.den*10^q)):=by
  have hp:0<10^q:=Nat.pow_pos (by decide)
  have e:x*tenR (-(q:Int))=Rat.divInt (sgn (decide (x.num<0)) x.num.natAbs) ((x.den*10^q:Nat):Int):=by
    rw [tenR_neg q hq,zdh]
    conv=>lhs; lhs; rw [←zbK x]
    rw [Rat.divInt_mul_divInt,Int.mul_one,Int.natCast_mul]
  rw [e,near_frac _ _ _ (Nat.mul_pos x.den_pos hp)]
theorem rounded_up (x:Rat) (p:Nat):((evenR (x*tenR (p:Int)):Int):Rat)*tenR (-(p:Int))=Rat.divInt (sgn (decide (x.num<0)) (near (x.num.natAbs*10^p) x.den)) ((10^p:Nat):Int):=by
  rw [even_places]
  generalize sgn (decide (x.num<0)) (near (x.num.natAbs*10^p) x.den)=E
  by_cases h0:p=0
  · subst h0
    have e:tenR (-((0:Nat):Int))=1:=rfl
    rw [e,Rat.mul_one,zcU]; rfl
  · rw [tenR_neg p (by omega),zcU,Rat.divInt_mul_divInt,Int.mul_one,Int.one_mul]
theorem rounded_down (x:Rat) (q:Nat) (hq:0<q):((evenR (x*tenR (-(q:Int))):Int):Rat)*tenR (- -(q:Int))=Rat.divInt (sgn (decide (x.num<0)) (near x.num.natAbs (x.den*10^q)*10^q)) 1:=by
  rw [even_down x q hq,Int.neg_neg,tenR_pos,zcU,Rat.divInt_mul_divInt,Int.mul_one,zcs]
theorem near_size (a b:Nat):(T (near a b)).size≤(T a).size+1:=by
  have h1:near a b≤a+1:=by
    have:=Nat.div_le_self a b
    unfold near
    split<;>omega
  have h11:(T 1).size≤1:=by rw [←T_1]; decide
  have hp:=zbb a
  exact Nat.le_trans (za7 h1) (zcZ a 1 (T a).size (Nat.le_refl _) (by omega))
theorem Steps_neg (s:Bool) (a b q:Nat) (hq:0<q) (hb:0<b) (ha:(T a).size≤100000) (hbs:(T b).size≤100000) (hp:q≤100000):c2_Steps.f s (T a) (T b) (-(q:Int))=some (T (near a (b*10^q))):=by
  unfold c2_Steps.f
  have ht:=zcY q
  have hm:(T (b*10^q)).size≤200001:=by have:=zbk b (10^q); omega
  have hw:wrap64 (- -(q:Int))=(q:Int):=by unfold wrap64; omega
  rw [if_neg (by omega),hw,Zeros_n q (by omega),Option.bind_some,if_pos (by rw [zcP]; omega),show (⟨#[49]⟩:ByteArray)++zer q=T (10^q) from T_ten q,zda (by omega) (by omega),Option.bind_some,Near_T (by omega) (by omega) (Nat.mul_pos hb (Nat.pow_pos (by decide))),Option.bind_some]
theorem Rounded_Fr {x:Rat} {p:Int} (hx:Sz 600 x) (h0 : -600≤p) (h1:p≤600):c2_Rounded.f (Fr x).1 (Fr x).2.1 (Fr x).2.2 p=some (Fr (((evenR (x*tenR p):Int):Rat)*tenR (-p))):=by
  obtain ⟨hx1,hx2⟩:=hx
  have hd:=x.den_pos
  unfold c2_Rounded.f
  show (c2_Steps.f (decide (x.num<0)) (T x.num.natAbs) (T x.den) p).bind _=_
  have e1:(Fr x).1=decide (x.num<0):=rfl
  rw [e1]
  by_cases hp:0≤p
  · obtain ⟨q,rfl⟩:∃ q:Nat,p=q:=⟨p.toNat,by omega⟩
    have ht:=zcY q
    have hm:(T (x.num.natAbs*10^q)).size≤1201:=by have:=zbk x.num.natAbs (10^q); omega
    have hn:=near_size (x.num.natAbs*10^q) x.den
    rw [rounded_up,Steps_T _ _ _ q hd (by omega) (by omega) (by omega),Option.bind_some,if_pos (by omega),Zeros_n q (by omega),Option.bind_some,if_pos (by rw [zcP]; omega),show (⟨#[49]⟩:ByteArray)++zer q=T (10^q) from T_ten q,zcz _ _ _ (Nat.pow_pos (by decide)) (by omega) (by omega),Option.bind_some]
  · obtain ⟨q,rfl⟩:∃ q:Nat,p = -(q:Int):=⟨(-p).toNat,by omega⟩
    have hq:0<q:=by omega
    have ht:=zcY q
    have hn:=near_size x.num.natAbs (x.den*10^q)
    have hm:=zbk (near x.num.natAbs (x.den*10^q)) (10^q)
    have hw:wrap64 (- -(q:Int))=(q:Int):=by unfold wrap64; omega
    have h11:(T 1).size≤1:=by rw [←T_1]; decide
    rw [rounded_down x q hq,Steps_neg _ _ _ q hq hd (by omega) (by omega) (by omega),Option.bind_some,if_neg (by omega),hw,Zeros_n q (by omega),Option.bind_some,if_pos (by rw [zcP]; omega),show (⟨#[49]⟩:ByteArray)++zer q=T (10^q) from T_ten q,zda (by omega) (by omega),Option.bind_some,T_1]
    have hl:=zcz (decide (x.num<0)) (near x.num.natAbs (x.den*10^q)*10^q) 1 (by decide) (by omega) (by omega)
    rw [hl,Option.bind_some]; rfl
theorem start1c (w:World) (a0 a1:ByteArray) (p:Int):(((w.alloc (.cells #[.string a0,.string a1] 23)).alloc (.cells #[.int .i64 p] 3)).alloc (.cells #[.string ⟨#[]⟩,.string ⟨#[]⟩] 23)).heap[w.heap.size+1+1]? = some (.cells #[.string ⟨#[]⟩,.string ⟨#[]⟩] 23 (0,0)) ∧
  (((w.alloc (.cells #[.string a0,.string a1] 23)).alloc (.cells #[.int .i64 p] 3)).alloc (.cells #[.string ⟨#[]⟩,.string ⟨#[]⟩] 23)).heap[w.heap.size+1]? = some (.cells #[.int .i64 p] 3 (0,0)) ∧
  Below w.heap.size w (((w.alloc (.cells #[.string a0,.string a1] 23)).alloc (.cells #[.int .i64 p] 3)).alloc (.cells #[.string ⟨#[]⟩,.string ⟨#[]⟩] 23)):=by
 refine ⟨?_,?_,zaa (zaa (zaa (Below.refl _ _) _) _) _⟩
 ·have:=zay ((w.alloc (.cells #[.string a0,.string a1] 23)).alloc (.cells #[.int .i64 p] 3)) (.cells #[.string ⟨#[]⟩,.string ⟨#[]⟩] 23)
  simp only [World.size_alloc] at this
  exact this
 ·have h1:=zay (w.alloc (.cells #[.string a0,.string a1] 23)) (.cells #[.int .i64 p] 3)
  have h2:=zaa (Below.refl ((w.alloc (.cells #[.string a0,.string a1] 23)).alloc (.cells #[.int .i64 p] 3)).heap.size ((w.alloc (.cells #[.string a0,.string a1] 23)).alloc (.cells #[.int .i64 p] 3))) (.cells #[.string ⟨#[]⟩,.string ⟨#[]⟩] 23)
  rw [World.size_alloc] at h1
  exact (h2.block _ (by simp only [World.size_alloc]; omega)).trans h1
theorem Round_wrap (a0 a1:ByteArray) (p:Int) (w:World) (tt:ByteArray×ByteArray×Int) (hd:∀ (W:World) (B:Nat),Below w.heap.size w W→w.heap.size≤B→W.heap[B]? = some (.cells #[.int .i64 p] 3 (0,0))→Says 132 #[.agg #[.string a0,.string a1],.func (.func 135) #[] #[.pointer (some ⟨B,0,none⟩)]] W tt):Says 55 #[.agg #[.string a0,.string a1],.int .i64 p] w tt:=by
 have HD:=Lib.hid hd
 clear hd
 unfold Says
 go_enter Tryz.func55,Tryz.ntmps55
 obtain ⟨hbk,hbx,hba⟩:=start1c w a0 a1 p
 go_wp2_with fail
 generalize (((w.alloc (.cells #[.string a0,.string a1] 23)).alloc (.cells #[.int .i64 p] 3)).alloc (.cells #[.string ⟨#[]⟩,.string ⟨#[]⟩] 23))=W0 at *
 generalize hBx:w.heap.size+1=X0 at *
 generalize hBe:X0+1=B0 at *
 have HBE:=Lib.hid (show w.heap.size≤B0 by omega)
 have hX:w.heap.size≤X0:=by omega
 clear hBe hBx
 refine (HD.out _ _ hba hX hbx).mono ?_
 rintro e w1 ⟨rfl,hb1⟩
 have hbk5:=(hb1.block _ (zas hbk)).trans hbk
 have hB5:=bthen hba hb1
 have cB0:=(zaf hbk5 0).trans (show _=some (Value.string ⟨#[]⟩) from rfl)
 have cB1:=(zaf hbk5 1).trans (show _=some (Value.string ⟨#[]⟩) from rfl)
 have fB0:=zad hbk5 0
 have fB1:=zad hbk5 1
 have hs1:=zau hbk5 0 (.string tt.1)
 have hs2:=zau hs1 1 (.string tt.2.1)
 have HS2:=Lib.hid (hs2.trans (show _=some (Obj.cells #[.string tt.1,.string tt.2.1] 23 (0,0)) from rfl))
 have HBF:=Lib.hid (zag (zag (g:=B0) (j:=0) (v:=.string tt.1) hB5 HBE.out) (j:=1) (v:=.string tt.2.1) (g:=B0) HBE.out)
 clear hs1 hs2 hbk hbk5 hba hb1 HD hbx hX
 go_wp2
 refine bodyPost_ret (zaM rfl _ _ B0 23 #[.string tt.1,.string tt.2.1] (0,0) _ rfl HS2.out Tryz.underlying23 rfl (by kernel_rfl)) rfl ?_
 exact ⟨rfl,HBF.out⟩
theorem Round_do1 (w:World) (x:Rat) (p:Int) (B:Nat) (hB:w.heap[B]? = some (.cells #[.int .i64 p] 3 (0,0))) (hp:p < -600∨600<p) (r:Rat):OneDo 135 #[.pointer (some ⟨B,0,none⟩)] w x 1 r:=by
 intro W z gx hb h1 h2 n1 hz hx
 have hB2:=(hb.block _ (zas hB)).trans hB
 have c0:=(zaf hB2 0).trans (show _=some (Value.int .i64 p) from rfl)
 change Calls Tryz.prog 135 #[.pointer (some ⟨z,0,none⟩),.pointer (some ⟨gx,0,none⟩),.pointer (some ⟨B,0,none⟩)] W _
 clear hz hx hb h1 h2 n1 hB2 hB
 by_cases hl:p < -600
 ·go_enter Tryz.func135,Tryz.ntmps135
  go_wp2
  go_ret
  first|exact ⟨rfl,fun e=>absurd e (by decide),by first|exact KeepB.refl _ _|exact (KeepB.refl _ _).drewN _⟩|exact ⟨rfl,KeepB.refl _ _⟩|exact ⟨rfl,(KeepB.refl _ _).drewN _⟩
 ·have hg:p>600:=by omega
  go_enter Tryz.func135,Tryz.ntmps135
  go_wp2
  go_ret
  first|exact ⟨rfl,fun e=>absurd e (by decide),by first|exact KeepB.refl _ _|exact (KeepB.refl _ _).drewN _⟩|exact ⟨rfl,KeepB.refl _ _⟩|exact ⟨rfl,(KeepB.refl _ _).drewN _⟩
theorem Round_do2 (w:World) (x:Rat) (p:Int) (B:Nat) (hB:w.heap[B]? = some (.cells #[.int .i64 p] 3 (0,0))) (hp : -600≤p∧p≤600) (hsx:Bdr 2000 x):OneDo 135 #[.pointer (some ⟨B,0,none⟩)] w x 0 (((evenR (x*tenR p):Int):Rat)*tenR (-p)):=by
 intro W z gx hb h1 h2 n1 hz hx
 have hB2:=(hb.block _ (zas hB)).trans hB
 have c0:=(zaf hB2 0).trans (show _=some (Value.int .i64 p) from rfl)
 have HK:=Lib.hid (show ∀ W':World,Below W.heap.size W W'→W'.cell? ⟨B,0,none⟩=some (.int .i64 p) from fun W' h=>(zaf ((h.block _ (zas hB2)).trans hB2) 0).trans (show _=some (Value.int .i64 p) from rfl))
 have hBz:B≠z:=by have:=zas hB; omega
 have HK2:=Lib.hid (show ∀ W':World,KeepB W W' z→W'.cell? ⟨B,0,none⟩=some (.int .i64 p) from fun W' h=>(zaf ((h.other _ (zas hB2) hBz).trans hB2) 0).trans (show _=some (Value.int .i64 p) from rfl))
 have HX:=Lib.hid hx
 have HBX:=Lib.hid hsx
 have hzl:=hz.lt
 have HZ:=Lib.hid hz
 have hpn:p.natAbs≤600:=by omega
 have HE:=Lib.hid (bd_even ((hsx.mul (Bdr.tenR p)).mono (show 2000+(4*p.natAbs+1)≤4401 by omega)))
 have HER:=Lib.hid (Bdr.int HE.out (by decide))
 have HTT:=Lib.hid ((Bdr.tenR (-p)).mono (show 4*(-p).natAbs+1≤2401 by omega))
 have HN:=Lib.hid (RatAt.new W 112 (by decide)).slot
 have hl:¬ p < -600:=by omega
 have hg:¬ p>600:=by omega
 have hw1:wrap64 (-p) = -p:=by unfold wrap64; omega
 have hw2:IntKind.i64.wrap (-p) = -p:=IntWalk.i64_in _ (by omega)
 change Calls Tryz.prog 135 #[.pointer (some ⟨z,0,none⟩),.pointer (some ⟨gx,0,none⟩),.pointer (some ⟨B,0,none⟩)] W _
 clear hx hb h1 h2 hB2 hB hsx hz
 go_enter Tryz.func135,Tryz.ntmps135
 go_wp2_with fail
 go_region_held3 (fun w'=>w'.cell? ⟨B,0,none⟩=some (.int .i64 p)) (first|exact HK2.out _ hK4|exact HK.out _ (by repeat (with_reducible first|exact Below.refl _ _|exact hB3|apply zao|apply zab|apply zaa|refine bthen ?_ hb2|refine bthen ?_ hb1)))
  ((first
   | (go_simp; go_at_call 102; (with_reducible change Calls _ _ #[.pointer (some ⟨gx,0,none⟩),.int .i64 p] _ _); refine (steps_calls gx x p _ (HX.out.below (by repeat (with_reducible first|exact Below.refl _ _|exact hB3|apply zao|apply zab|apply zaa|refine bthen ?_ hb2|refine bthen ?_ hb1))) HBX.out (by decide) (by omega) (by omega) (by decide)).mono ?_; rintro e w1 ⟨D1,rfl,hD1,hi1,hb1⟩)
   | (go_simp; go_at_call 136; (with_reducible change Calls _ _ #[.int .i64 (-p)] _ _); refine (zbT (-p) _ (by omega) (by omega)).mono ?_; rintro e w2 ⟨G2,rfl,hG2,ht2,hb2⟩)
   | (go_simp; go_at_call 125; (with_reducible change Calls _ _ #[.pointer (some ⟨_,0,none⟩),.pointer (some ⟨D1,0,none⟩)] _ _); refine (zaO _ D1 0 _ _ (by first|exact HN.out.below (by repeat (with_reducible first|exact Below.refl _ _|apply zao|apply zab|apply zaa|refine bthen ?_ hb2|refine bthen ?_ hb1))|exact (RatAt.new w1 112 (by decide)).slot.below (by repeat (with_reducible first|exact Below.refl _ _|apply zao|apply zab|apply zaa|refine bthen ?_ hb2|refine bthen ?_ hb1))|exact (RatAt.new w2 112 (by decide)).slot.below (by repeat (with_reducible first|exact Below.refl _ _|apply zao|apply zab|apply zaa|refine bthen ?_ hb2|refine bthen ?_ hb1))) (hi1.below (by repeat (with_reducible first|exact Below.refl _ _|apply zao|apply zab|apply zaa|refine bthen ?_ hb2|refine bthen ?_ hb1))) HE.out (by decide)).mono ?_; rintro e w3 ⟨rfl,hr3,hu3⟩; have hB3:Below W.heap.size W w3:=hu3.new (by repeat (with_reducible first|exact Below.refl _ _|apply zao|apply zab|apply zaa|refine bthen ?_ hb2|refine bthen ?_ hb1)) (by first|exact Nat.le_refl _|(have k1:=hb1.size; (try have k2:=hb2.size); (try simp only [World.size_alloc,World.size_drew] at k1); (try simp only [World.size_alloc,World.size_drew] at k2); omega)|(have k2:=hb2.size; (try simp only [World.size_alloc,World.size_drew] at k2); omega)))
   | (go_simp; go_at_call 118; (with_reducible change Calls _ _ #[.pointer (some ⟨z,0,none⟩),.pointer (some ⟨_,0,none⟩),.pointer (some ⟨G2,0,none⟩)] _ _); refine (zbn z _ G2 _ _ _ (HZ.out.slot.below (by repeat (with_reducible first|exact Below.refl _ _|exact hB3|apply zao|apply zab|apply zaa|refine bthen ?_ hb2|refine bthen ?_ hb1))) (hr3.below (by repeat (with_reducible first|exact Below.refl _ _|apply zao|apply zab|apply zaa|refine bthen ?_ hb2|refine bthen ?_ hb1))) (by first|exact ht2.below (by repeat (with_reducible first|exact Below.refl _ _|apply zao|apply zab|apply zaa|refine bthen ?_ hb2|refine bthen ?_ hb1))|exact ((ht2.below (by repeat (with_reducible first|exact Below.refl _ _|apply zao|apply zab|apply zaa|refine bthen ?_ hb2|refine bthen ?_ hb1))).upd hu3 (by (try simp only [World.size_alloc,World.size_drew] at hG2); (try simp only [World.size_alloc,World.size_drew] at hD1); (have k1:=hb1.size; (try simp only [World.size_alloc,World.size_drew] at k1); (try have k2:=hb2.size); (try simp only [World.size_alloc,World.size_drew] at k2); omega))).below (by repeat (with_reducible first|exact Below.refl _ _|apply zao|apply zab|apply zaa|refine bthen ?_ hb2|refine bthen ?_ hb1))) HER.out HTT.out (by decide)).mono ?_; rintro e w4 ⟨rfl,hr4,hu4⟩; have hK4:KeepB W w4 z:=(hu4.lift (by repeat (with_reducible first|exact Below.refl _ _|exact hB3|apply zao|apply zab|apply zaa|refine bthen ?_ hb2|refine bthen ?_ hb1))).keepB)
   ))
 all_goals
  go_wp2
  go_ret
  first|exact ⟨rfl,fun _=>hr4,hK4⟩|exact ⟨rfl,hr4,hK4⟩
noncomputable def rat_Round.f (a0_0 a0_1:ByteArray) (a1:Int):Option (ByteArray×ByteArray×Int):=oneF (fun _=>if a1 < -600∨600<a1 then 1 else 0) (fun x=>((evenR (x*tenR a1):Int):Rat)*tenR (-a1)) a0_0 a0_1
theorem rat_Round.calls (a0 a1:ByteArray) (p:Int) (r1 r2:ByteArray) (r3:Int) (w:World) (h:rat_Round.f a0 a1 p=some (r1,r2,r3)) :
  Calls Tryz.prog 55 #[.agg #[.string a0,.string a1],.int .i64 p] w fun e w'=>e = .returned (.tuple #[.agg #[.string r1,.string r2],.int .i64 r3])∧Below w.heap.size w w':=by
 refine Round_wrap a0 a1 p w (r1,r2,r3) (fun W B _ _ hB => ?_)
 unfold rat_Round.f at h
 by_cases hh:∃ x,RR a0 a1 x
 ·obtain ⟨x,hx⟩:=hh
  rw [zdr hx] at h
  rw [←Option.some.inj h]
  refine one_yes a0 a1 x 135 #[.pointer (some ⟨B,0,none⟩)] _ _ W (enters_of Tryz.func135 (by kernel_rfl) rfl) hx ?_ (fun hw => ?_) (n:=8000) (by decide)
  ·by_cases hp:p < -600∨600<p
   ·rw [if_pos hp]; exact Round_do1 W x p B hB hp _
   ·rw [if_neg hp]; exact Round_do2 W x p B hB (by omega) hx.bd
  ·by_cases hp:p < -600∨600<p
   ·rw [if_pos hp] at hw; cases hw
   ·have hpn:p.natAbs≤600:=by omega
    have h1:=Bdr.int (bd_even ((hx.bd.mul (Bdr.tenR p)).mono (show 2000+(4*p.natAbs+1)≤4401 by omega))) (by decide)
    exact (h1.mul ((Bdr.tenR (-p)).mono (show 4*(-p).natAbs+1≤2401 by omega))).mono (by decide)
 ·rw [oneF_no hh] at h
  rw [←Option.some.inj h]
  exact one_no a0 a1 135 #[.pointer (some ⟨B,0,none⟩)] W hh
end Go.Proofs.ZQ
end
