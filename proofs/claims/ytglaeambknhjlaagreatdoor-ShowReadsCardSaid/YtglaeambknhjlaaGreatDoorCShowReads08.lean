/- Texts under the proof, joined by a program (prune.py): P93, SLimb, P8, P98, P99, SRight, HRatRead. -/
import Derived.Test.YtglaeambknhjlaaGreatDoorCShowReads02
import Derived.Test.YtglaeambknhjlaaGreatDoorCShowReads07
import Derived.Test.YtglaeambknhjlaaGreatDoorCShowReads06
import Derived.Test.YtglaeambknhjlaaGreatDoorCShowReads05
set_option linter.unusedVariables false
set_option linter.unusedSimpArgs false
set_option exponentiation.threshold 20001
set_option maxHeartbeats 8000000
set_option maxRecDepth 100000
section
namespace Go.Proofs.ZP
open Go.RowKit Go.Proofs.ZW.Wa Go.Proofs.ZW.Wb Go.Proofs.ZW.Wc
attribute [local go_sem] zaC zaB zaM zaL zaz zay zaF zaE
mutual
def c1_limbs.l0:Nat→ByteArray→List Int→Int→Option (List Int)
 | 0,_,_,_=>none
 | k+1,x0,x3,x4=>if x4>0 then (if (wrap64 (x4-4))<0 then (c1_limbs.j1 k x0 x3 x4 0) else (c1_limbs.j1 k x0 x3 x4 (wrap64 (x4-4)))) else ((c1_trim.f k x3).bind fun t226=>(some t226))
def c1_limbs.j1:Nat→ByteArray→List Int→Int→Int→Option (List Int)
 | 0,_,_,_,_=>none
 | k+1,x0,x3,x4,x5=>c1_limbs.l1 k x0 x3 x4 0 x5
def c1_limbs.l1:Nat→ByteArray→List Int→Int→Int→Int→Option (List Int)
 | 0,_,_,_,_,_=>none
 | k+1,x0,x3,x4,x6,x7=>if x7<x4 then (if 0≤x7 then (if x7<(x0.size:Int) then (c1_limbs.l1 k x0 x3 x4 (wrap64 ((wrap64 (10*x6))+(((bt x0 x7)-48)%256))) (wrap64 (x7+1))) else (none)) else (none)) else (if x3.length<17592186044416 then (c1_limbs.l0 k x0 (x3 ++ [x6]) (wrap64 (x4-4))) else (none))
end
def c1_limbs.f (k:Nat) (a0:ByteArray):Option (List Int):=c1_limbs.l0 k a0 ([]:List Int) (a0.size:Int)
theorem c1_limbs.calls (k:Nat) (a0:ByteArray) (r:List Int) (w:World) (h:c1_limbs.f k a0=some r) :
  Calls Tryz.prog 203 #[.string a0] w fun e w'=>∃ v0_:Value,e = .returned (v0_)∧Kd.V (Kd.int .i64) 3 w' w.heap.size (fun k_=>(w.heap.size≤k_)) v0_ r∧Below w.heap.size w w':=by
 have HB:=Aside0.mk (Below.refl w.heap.size w)
 have H:(c1_limbs.l0 k a0 ([]:List Int) (a0.size:Int))=some r:=h
 clear h
 have H':=Aside0.mk H
 clear H
 go_enter Tryz.func203,Tryz.ntmps203
 go_wp2
 go_loopg [3,4] k (fun kq v3 v4 w'=>∃ (x3_1:List Int) (x4_1:Int),v4 = .int .i64 x4_1∧Aside0 (c1_limbs.l0 kq a0 x3_1 x4_1=some r)∧Aside0 (kq≤k)∧Aside0 (Kd.R (Kd.int .i64) 3 w' w.heap.size (fun k_=>(w.heap.size≤k_)) v3 x3_1)∧Aside0 (Below w.heap.size w w'))
 case atStart=>exact ⟨(([]:List Int)),((a0.size:Int)),(by first|rfl|(simp; done)|(simp [*]; done)),H',⟨Nat.le_refl _⟩,⟨by first|exact Kd.R_nil _ _ _ _ _|exact Kd.N_nil _ _ _ _ _|exact Kd.V_nil _ _ _ _ _|exact Kd.Q_nil _ _ _ _ _|exact Kd.S_nil _ _ _ _ _⟩,⟨by repeat (first|(with_reducible first|exact HB.out|apply zaa|apply zab|apply zac)|exact HB.out)⟩⟩
 case round =>
  clear H'
  obtain ⟨x3_1,x4_1,rfl,HA,HK1,HO_3,HB⟩:=hrel
  cases gk with
  | zero=>exact absurd HA.out (by simp [c1_limbs.l0])
  | succ k1 =>
   have H:=HA.out
   clear HA
   simp only [c1_limbs.l0] at H
   by_cases c2:x4_1>0
   ·rw [if_pos c2] at H
    have c2b0:decide (0<x4_1)=true:=decide_eq_true c2
    clear c2
    have HC3:=Aside0.mk H
    clear H
    go_upto_if 17 with (fail)
    go_cut [5] (fun v5 wc=>∃ (kq:Nat) (x5_2:Int),v5 = .int .i64 x5_2∧Aside0 (c1_limbs.j1 kq a0 x3_1 x4_1 x5_2=some r)∧Aside0 (kq≤k1)∧Aside0 (Kd.R (Kd.int .i64) 3 wc w.heap.size (fun k_=>(w.heap.size≤k_)) u3 x3_1)∧Aside0 (Below w.heap.size w wc))
    case first =>
     have H:=HC3.out
     clear HC3
     by_cases c4:(wrap64 (x4_1-4))<0
     ·rw [if_pos c4] at H
      have c4b0:decide ((wrap64 (x4_1-4))<0)=true:=decide_eq_true c4
      clear c4
      (first|rw [c4b0]|(simp only [i64_w,i32_w]; rw [c4b0])|skip)
      have H':=Aside0.mk H
      clear H
      go_wp2
      go_meet
      case rel=>exact ⟨_,(0),(by first|rfl|(simp; done)|(simp [*]; done)),H',⟨by have:=HK1.out; first|omega|exact Nat.le_refl _⟩,⟨by (with_reducible repeat (first|apply Kd.R_alloc|apply Kd.R_drewN|apply Kd.R_drew)); exact HO_3.out⟩,⟨by repeat (first|(with_reducible first|exact HB.out|apply zaa|apply zab|apply zac)|exact HB.out)⟩⟩
     ·rw [if_neg c4] at H
      have c4b0:decide ((wrap64 (x4_1-4))<0)=false:=decide_eq_false c4
      clear c4
      (first|rw [c4b0]|(simp only [i64_w,i32_w]; rw [c4b0])|skip)
      have H':=Aside0.mk H
      clear H
      go_wp2
      go_meet
      case rel=>exact ⟨_,(wrap64 (x4_1-4)),(by first|rfl|(simp; done)|(simp [*]; done)),H',⟨by have:=HK1.out; first|omega|exact Nat.le_refl _⟩,⟨by (with_reducible repeat (first|apply Kd.R_alloc|apply Kd.R_drewN|apply Kd.R_drew)); exact HO_3.out⟩,⟨by repeat (first|(with_reducible first|exact HB.out|apply zaa|apply zab|apply zac)|exact HB.out)⟩⟩
    case rest =>
     clear HC3
     try clear c2
     try clear c2b0
     try clear p2
     try clear c4
     try clear c4b0
     obtain ⟨kq,x5_2,rfl,HA,HJ2,HO_3,HB⟩:=hcut
     cases kq with
     | zero=>exact absurd HA.out (by simp [c1_limbs.j1])
     | succ kj2 =>
      have H:=HA.out
      clear HA
      simp only [c1_limbs.j1] at H
      have H':=Aside0.mk H
      clear H
      go_wp2
      go_loopg [6,7] kj2 (fun kq v6 v7 w'=>∃ (x6_3:Int) (x7_3:Int),v6 = .int .i64 x6_3∧v7 = .int .i64 x7_3∧Aside0 (c1_limbs.l1 kq a0 x3_1 x4_1 x6_3 x7_3=some r)∧Aside0 (kq≤kj2)∧Aside0 (Kd.R (Kd.int .i64) 3 w' w.heap.size (fun k_=>(w.heap.size≤k_)) u3 x3_1)∧Aside0 (Below w.heap.size w w'))
      case atStart=>exact ⟨(0),(x5_2),(by first|rfl|(simp; done)|(simp [*]; done)),(by first|rfl|(simp; done)|(simp [*]; done)),H',⟨Nat.le_refl _⟩,⟨by (with_reducible repeat (first|apply Kd.R_alloc|apply Kd.R_drewN|apply Kd.R_drew)); exact HO_3.out⟩,⟨by repeat (first|(with_reducible first|exact HB.out|apply zaa|apply zab|apply zac)|exact HB.out)⟩⟩
      case round =>
       clear H'
       try clear c2
       try clear c2b0
       try clear p2
       try clear c4
       try clear c4b0
       try clear p2
       obtain ⟨x6_3,x7_3,rfl,rfl,HA,HK3,HO_3,HB⟩:=hrel
       cases gk with
       | zero=>exact absurd HA.out (by simp [c1_limbs.l1])
       | succ k3 =>
        have H:=HA.out
        clear HA
        simp only [c1_limbs.l1] at H
        by_cases c5:x7_3<x4_1
        ·rw [if_pos c5] at H
         have c5b0:decide (x7_3<x4_1)=true:=decide_eq_true c5
         clear c5
         by_cases c6:0≤x7_3
         ·rw [if_pos c6] at H
          have c6b0:decide (0≤x7_3)=true:=decide_eq_true c6
          clear c6
          by_cases c7:x7_3<(a0.size:Int)
          ·rw [if_pos c7] at H
           have c7b0:decide (x7_3<(a0.size:Int))=true:=decide_eq_true c7
           clear c7
           have H':=Aside0.mk H
           clear H
           have p8:0≤(x7_3:Int):=of_decide_eq_true (by first|(with_reducible assumption)|assumption)
           have q8:x7_3<(a0.size:Int):=of_decide_eq_true (by first|(with_reducible assumption)|assumption)
           have hx8:=bt_at a0 x7_3
           replace p8:=eq_true p8
           replace q8:=eq_true q8
           go_wp2
           go_roundg k3
           case measure=>have:=HK1.out; have:=HJ2.out; have:=HK3.out; omega
           case rel=>exact ⟨(wrap64 ((wrap64 (10*x6_3))+(((bt a0 x7_3)-48)%256))),(wrap64 (x7_3+1)),(by first|rfl|(simp; done)|(simp [*]; done)),(by first|rfl|(simp; done)|(simp [*]; done)),H',⟨by have:=HK1.out; have:=HJ2.out; have:=HK3.out; omega⟩,⟨by (with_reducible repeat (first|apply Kd.R_alloc|apply Kd.R_drewN|apply Kd.R_drew)); exact HO_3.out⟩,⟨by repeat (first|(with_reducible first|exact HB.out|apply zaa|apply zab|apply zac)|exact HB.out)⟩⟩
          ·rw [if_neg c7] at H
           exact absurd H (by simp)
         ·rw [if_neg c6] at H
          exact absurd H (by simp)
        ·rw [if_neg c5] at H
         have c5b0:decide (x7_3<x4_1)=false:=decide_eq_false c5
         clear c5
         by_cases c9:x3_1.length<17592186044416
         ·rw [if_pos c9] at H
          have LMc9:=Aside0.mk c9
          clear c9
          obtain ⟨y229,hy229⟩:∃ y_:List Int,y_=(x3_1 ++ [x6_3]):=⟨_,rfl⟩
          replace H:(c1_limbs.l0 k3 a0 y229 (wrap64 (x4_1-4)))=some r:=by first|(rw [hy229]; with_reducible exact H)|(have H2_:=(Option.bind_some _ _).symm.trans H; rw [hy229]; with_reducible exact H2_)|(have H2_:=(Option.bind_some _ _).symm.trans H; with_reducible exact H2_)|with_reducible exact H|(rw [hy229]; exact H)|exact H
          have Ny229:=Aside0.mk hy229
          clear hy229
          have H':=Aside0.mk H
          clear H
          go_wp2_with (first|((with_reducible refine zbX (b:=.append) (xs:=#[.tmp 32,.tmp 34]) rfl ?_); at_builtin; refine Kd.R_append (Kd.int .i64) (w0:=w) w.heap.size rfl (.tmp 32) (.tmp 34) 92 3 (.int .i64 0) 8 rfl Tryz.underlying92 info3 rfl (by decide) (by omega) u3 x3_1 x6_3 [.int .i64 x6_3] (fun k_=>(w.heap.size≤k_)) (fun _=>False) rfl rfl ?aP (fun _ hk=>hk.elim) ?aF ?aO ?aB ?aS ?aL ?_; (case aP=>exact rfl); (case aB=>exact (by repeat (first|(with_reducible first|exact HB.out|apply zaa|apply zab|apply zac)|exact HB.out))); (case aF=>exact (fun k_ hk=>(Nat.le_trans (zal (by repeat (first|(with_reducible first|exact HB.out|apply zaa|apply zab|apply zac)|exact HB.out))) hk))); (case aO=>exact (by (with_reducible repeat (first|apply Kd.R_alloc|apply Kd.R_drewN|apply Kd.R_drew)); exact HO_3.out)); (case aS=>exact (zal (by repeat (first|(with_reducible first|exact HB.out|apply zaa|apply zab|apply zac)|exact HB.out)))); (case aL=>have:=LMc9.out; omega); intro v230 w10 ho hb hg hat; rw [←Ny229.out] at ho; have n0_:=Aside0.mk (hb); have n1_:=Aside0.mk (ho); clear HB; clear HO_3; have HB:=n0_; have HO231:=n1_; clear n0_ n1_; clear ho hb hg hat))
          go_roundg k3
          case measure=>have:=HK1.out; have:=HJ2.out; have:=HK3.out; omega
          case rel=>exact ⟨(y229),(wrap64 (x4_1-4)),(by first|rfl|(simp; done)|(simp [*]; done)),H',⟨by have:=HK1.out; have:=HJ2.out; have:=HK3.out; omega⟩,⟨by (with_reducible repeat (first|apply Kd.R_alloc|apply Kd.R_drewN|apply Kd.R_drew)); exact HO231.out⟩,⟨by repeat (first|(with_reducible first|exact HB.out|apply zaa|apply zab|apply zac)|exact HB.out)⟩⟩
         ·rw [if_neg c9] at H
          exact absurd H (by simp)
   ·rw [if_neg c2] at H
    have c2b0:decide (0<x4_1)=false:=decide_eq_false c2
    clear c2
    replace H:=Option.bind_eq_some_iff.mp H
    obtain ⟨t226,A110,H⟩:=H
    replace H:(some t226)=some r:=H
    have A11:=Aside0.mk A110
    clear A110
    obtain rfl:=Option.some.inj H
    obtain ⟨Ao12,co12,eo12⟩:=Kd.R_slice HO_3.out
    subst eo12
    go_wp2_with (first|((with_reducible refine zav (f:=208) rfl ?_); refine za5 (some 37) rfl rfl Tryz.func208 (by kernel_rfl) rfl #[.slice Ao12 x3_1.length co12] rfl (by (try simp only [List.map_toArray,List.map_cons,List.map_nil]); first|done|rfl|(simp only [List.length_drop,List.length_take]; rfl)) ?_; (with_reducible refine (c1_trim.calls k1 (fun k_=>some k_=(.slice Ao12 x3_1.length co12:Value).ownBlock) _ _ x3_1 t226 _ ?side1 A11.out).mono ?_); (case side1=>exact Kd.R_V (Kd.R_tight rfl (HO_3.out))); rintro e w13 ⟨v227,rfl,ho0,hb⟩; refine ⟨_,rfl,?_⟩; have n0_:=Aside0.mk (Kd.R_below (by (with_reducible repeat (first|apply Kd.R_alloc|apply Kd.R_drewN|apply Kd.R_drew)); exact HO_3.out) hb); have n1_:=Aside0.mk (Kd.V_lower (Kd.V_mono (ok':=fun k_=>(w.heap.size≤k_)) ho0 (fun k_ hk_=>Or.elim hk_ (fun hs_=>((HO_3.out).1 k_ hs_.symm)) (fun hn_=>(Nat.le_trans (zal (by repeat (first|(with_reducible first|exact HB.out|apply zaa|apply zab|apply zac)|exact HB.out))) hn_)))) (zal (by repeat (first|(with_reducible first|exact HB.out|apply zaa|apply zab|apply zac)|exact HB.out)))); have n2_:=Aside0.mk (zam (by repeat (first|(with_reducible first|exact HB.out|apply zaa|apply zab|apply zac)|exact HB.out)) hb); clear HO_3; clear HB; have HO_3:=n0_; have HO228:=n1_; have HB:=n2_; clear n0_ n1_ n2_; (try clear hb); (try clear hb2); (try clear hk); (try clear hi); (try clear ho0)))
    go_ret
    exact ⟨_,by first|rfl|(simp [zao,zan]<;>rfl)|(simp [*,zao,zan]<;>rfl),by (with_reducible repeat (first|apply Kd.V_alloc|apply Kd.V_drewN|apply Kd.V_drew)); exact HO228.out,by repeat (first|(with_reducible first|exact HB.out|apply zaa|apply zab|apply zac)|exact HB.out)⟩
end Go.Proofs.ZP
end
section
namespace Go.Proofs.ZP
open Go.RowKit Go.Proofs.ZW.Wa
def lv:List Int→Int
 | []=>0
 | x :: xs=>x+10000*lv xs
def Ld (ws:List Int):Prop:=∀ u∈ws,0≤u∧u<10000
theorem Ld.nil:Ld []:=fun u h=>by cases h
theorem Ld.cons {x:Int} {xs:List Int} (h0:0≤x) (h1:x<10000) (h:Ld xs):Ld (x :: xs):=fun u hu=>by
 rcases List.mem_cons.1 hu with rfl|hu
 ·exact ⟨h0,h1⟩
 ·exact h u hu
theorem Ld.tail {x:Int} {xs:List Int} (h:Ld (x :: xs)):Ld xs:=fun u hu=>h u (List.mem_cons_of_mem _ hu)
theorem Ld.head {x:Int} {xs:List Int} (h:Ld (x :: xs)):0≤x∧x<10000:=h x List.mem_cons_self
theorem Ld.append {xs ys:List Int} (h:Ld xs) (k:Ld ys):Ld (xs++ys):=fun u hu=>(List.mem_append.1 hu).elim (h u) (k u)
theorem Ld.take {xs:List Int} (h:Ld xs) (n:Nat):Ld (xs.take n):=fun u hu=>h u (List.mem_of_mem_take hu)
theorem Ld.drop {xs:List Int} (h:Ld xs) (n:Nat):Ld (xs.drop n):=fun u hu=>h u (List.mem_of_mem_drop hu)
theorem Ld.set {xs:List Int} (h:Ld xs) (n:Nat) {v:Int} (h0:0≤v) (h1:v<10000):Ld (xs.set n v):=fun u hu=>by
 rcases List.mem_or_eq_of_mem_set hu with hu|rfl
 ·exact h u hu
 ·exact ⟨h0,h1⟩
theorem Ld.zeros (n:Nat):Ld (List.replicate n 0):=fun u hu=>by
 rw [List.eq_of_mem_replicate hu]; exact ⟨by decide,by decide⟩
theorem Ld.rd {xs:List Int} (h:Ld xs) (i:Int):0≤rd xs i∧rd xs i<10000:=by
 unfold Go.Proofs.ZW.Wa.rd
 rw [List.getD_eq_getElem?_getD]
 rcases Nat.lt_or_ge i.toNat xs.length with hi|hi
 ·rw [List.getElem?_eq_getElem hi]; exact h _ (List.getElem_mem hi)
 ·rw [List.getElem?_eq_none hi]; exact ⟨by decide,by decide⟩
theorem za4 {xs:List Int} (h:Ld xs):0≤lv xs:=by
 induction xs with
 | nil=>exact Int.le_refl _
 | cons x xs ih=>have:=ih h.tail; have:=h.head; simp only [lv]; omega
theorem zco (xs ys:List Int):lv (xs++ys)=lv xs+10000^xs.length*lv ys:=by
 induction xs with
 | nil=>simp [lv]
 | cons x xs ih=>simp only [List.cons_append,lv,ih,List.length_cons,Int.pow_succ]; rw [Int.mul_add,Int.mul_comm (10000^xs.length) 10000,Int.mul_assoc]; omega
theorem lv_lt {xs:List Int} (h:Ld xs):lv xs<10000^xs.length:=by
 induction xs with
 | nil=>simp [lv]
 | cons x xs ih=>have:=ih h.tail; have:=h.head; simp only [lv,List.length_cons,Int.pow_succ]; omega
theorem lv_zeros (n:Nat):lv (List.replicate n 0)=0:=by
 induction n with
 | zero=>rfl
 | succ n ih=>simp [List.replicate_succ,lv,ih]
theorem lv_take_drop (xs:List Int) (n:Nat) (h:n≤xs.length):lv xs=lv (xs.take n)+10000^n*lv (xs.drop n):=by
 have:=zco (xs.take n) (xs.drop n)
 rwa [List.take_append_drop,List.length_take,Nat.min_eq_left h] at this
theorem lv_set {xs:List Int} {n:Nat} (v:Int) (h:n<xs.length):lv (xs.set n v)=lv xs+10000^n*(v-rd xs (n:Int)):=by
 induction xs generalizing n with
 | nil=>simp at h
 | cons x xs ih =>
  cases n with
  | zero=>simp [lv,Go.Proofs.ZW.Wa.rd]; omega
  | succ n =>
   have e:=ih (n:=n) (by simpa using h)
   have er:rd (x :: xs) ((n+1:Nat):Int)=rd xs (n:Int):=by simp [Go.Proofs.ZW.Wa.rd]
   rw [List.set_cons_succ,er]
   simp only [lv,e,Int.pow_succ]
   grind
def lim (n:Nat):List Int:=if h:n=0 then [] else ((n%10000:Nat):Int) :: lim (n/10000)
termination_by n
decreasing_by omega
theorem zbG:lim 0 = []:=by rw [lim]; rfl
theorem zcx {n:Nat} (h:0<n):lim n=((n%10000:Nat):Int) :: lim (n/10000):=by rw [lim,dif_neg (by omega)]
theorem zch (n:Nat):Ld (lim n):=by
 induction n using Nat.strongRecOn with
 | ind n ih =>
  rcases Nat.eq_zero_or_pos n with h|h
  ·subst h; rw [zbG]; exact Ld.nil
  ·rw [zcx h]; exact Ld.cons (by omega) (by omega) (ih _ (by omega))
theorem zbL (n:Nat):lv (lim n)=n:=by
 induction n using Nat.strongRecOn with
 | ind n ih =>
  rcases Nat.eq_zero_or_pos n with h|h
  ·subst h; rw [zbG]; rfl
  ·rw [zcx h,lv,ih _ (by omega)]; omega
theorem lim_top (n:Nat):(lim n).getLast? ≠ some 0:=by
 induction n using Nat.strongRecOn with
 | ind n ih =>
  rcases Nat.eq_zero_or_pos n with h|h
  ·subst h; rw [zbG]; simp
  ·rw [zcx h]
   by_cases h2:n/10000=0
   ·rw [h2,zbG]; simp; omega
   ·rw [zcx (by omega)]
    have:=ih (n/10000) (by omega)
    rw [zcx (by omega)] at this
    rwa [List.getLast?_cons_cons]
theorem lim_uniq:∀ {xs:List Int},Ld xs→xs.getLast? ≠ some 0→∀ {n:Nat},lv xs=n→xs=lim n:=by
 intro xs
 induction xs with
 | nil=>intro _ _ n h; simp [lv] at h; rw [show n=0 by omega,zbG]
 | cons x xs ih =>
  intro hd ht n h
  have h1:=hd.head
  have h2:=za4 hd.tail
  simp only [lv] at h
  have ht2:xs.getLast? ≠ some 0:=by
   cases xs with
   | nil=>simp
   | cons y ys=>rwa [List.getLast?_cons_cons] at ht
  have hn:0<n:=by
   apply Classical.byContradiction
   intro hn
   have hx0:x=0:=by omega
   have:=ih hd.tail ht2 (n:=0) (by omega)
   rw [zbG] at this
   rw [this,hx0] at ht
   simp at ht
  have e:=ih hd.tail ht2 (n:=n/10000) (by omega)
  rw [zcx hn,←e]
  have:((n%10000:Nat):Int)=x:=by omega
  rw [this]
theorem lim_len {n k:Nat} (h:n<10000^k):(lim n).length≤k:=by
 induction k generalizing n with
 | zero=>rw [show n=0 by simpa using h,zbG]; simp
 | succ k ih =>
  rcases Nat.eq_zero_or_pos n with h0|h0
  ·subst h0; rw [zbG]; simp
  ·rw [zcx h0,List.length_cons]
   have:=ih (n:=n/10000) (by rw [Nat.div_lt_iff_lt_mul (by decide)]; rwa [Nat.pow_succ] at h)
   omega
theorem za0 (n:Nat):(lim n).length≤(T n).size:=by
 refine lim_len ?_
 have h1:=(zas (n:=n) (k:=(T n).size) (by rw [zb2]; exact za2 n)).1 (Nat.le_refl _)
 have h2:10^(T n).size≤10000^(T n).size:=Nat.pow_le_pow_left (by decide) _
 omega
theorem w64' {x:Int} (h0 : -4611686018427387904≤x) (h1:x≤4611686018427387904):wrap64 x=x:=by unfold wrap64; omega
theorem trim_ev:∀ (m:Nat) (xs:List Int),xs.length=m→m≤1099511627776→Ld xs→Ev (fun k=>c1_trim.f k xs) (lim (lv xs).toNat):=by
 intro m
 induction m with
 | zero =>
  intro xs hl hm hd
  have:xs = []:=List.length_eq_zero_iff.1 hl
  subst this
  rw [show (lv []).toNat=0 from rfl,zbG]
  refine Ev.step (f:=fun _=>some []) (fun k => ?_) (Ev.now _)
  simp [c1_trim.f,c1_trim.l0]
 | succ m ih =>
  intro xs hl hm hd
  obtain ⟨ys,y,rfl⟩:∃ ys y,xs=ys ++ [y]:=by
   have hne:xs ≠ []:=by intro e; subst e; simp at hl
   exact ⟨xs.dropLast,xs.getLast hne,(List.dropLast_concat_getLast hne).symm⟩
  have hyl:ys.length=m:=by simpa using hl
  have e1:wrap64 (((ys ++ [y]).length:Int)-1)=(m:Int):=by rw [w64' (by omega) (by omega)]; omega
  have e2:rd (ys ++ [y]) (m:Int)=y:=by
   unfold Go.Proofs.ZW.Wa.rd
   rw [List.getD_eq_getElem?_getD,Int.toNat_natCast,←hyl,List.getElem?_concat_length]; rfl
  have hdy:Ld ys:=fun u hu=>hd u (List.mem_append_left _ hu)
  have hy:=hd y (by simp)
  by_cases h0:y=0
  ·subst h0
   have hv:lv (ys ++ [0])=lv ys:=by rw [zco]; simp [lv]
   rw [hv]
   refine Ev.step (f:=fun k=>c1_trim.f k ys) (fun k => ?_) (ih ys hyl (by omega) hdy)
   simp only [c1_trim.f,c1_trim.l0]
   rw [if_pos (by omega),e1,if_pos (by omega),if_pos (by omega),e2,if_pos rfl,if_pos (by omega),Int.toNat_natCast,←hyl,List.take_left]
  ·have hu:ys ++ [y]=lim (lv (ys ++ [y])).toNat:=lim_uniq hd (by simpa using h0) (by have:=za4 hd; omega)
   rw [←hu]
   refine Ev.step (f:=fun _=>some (ys ++ [y])) (fun k => ?_) (Ev.now _)
   simp only [c1_trim.f,c1_trim.l0]
   rw [if_pos (by omega),e1,if_pos (by omega),if_pos (by omega),e2,if_neg h0]
theorem bt_dig {s:ByteArray} (hd:Dig s.data.toList) {j:Nat} (h:j<s.size):∃ d:Nat,d≤9∧bt s (j:Int)=(d:Int)+48∧∀ l,s.data.toList=l→∃ hl:j<l.length,(l[j].toNat-48)=d:=by
 have hl:j<s.data.toList.length:=by rw [zak]; exact h
 have h1:=hd _ (List.getElem_mem hl)
 refine ⟨s.data.toList[j].toNat-48,by omega,?_,fun l e=>by subst e; exact ⟨hl,rfl⟩⟩
 have:=bt_at s (j:Int) (by rw [Int.toNat_natCast]; exact h)
 rw [←this]
 have e2:s[(j:Int).toNat]'(by rw [Int.toNat_natCast]; exact h)=s.data.toList[j]:=by
  simp [ByteArray.getElem_eq_getElem_data]
 rw [e2]; omega
def seg (l:List UInt8) (i j:Nat):Nat:=dval ((l.drop i).take (j-i))
theorem seg_self (l:List UInt8) (i:Nat):seg l i i=0:=by unfold seg; rw [Nat.sub_self,List.take_zero]; rfl
theorem seg_succ (l:List UInt8) {i j:Nat} (h:i≤j) (hj:j<l.length):seg l i (j+1)=10*seg l i j+(l[j].toNat-48):=by
 unfold seg
 rw [show j+1-i=(j-i)+1 by omega,zcj _ _ (by rw [List.length_drop]; omega)]
 rw [List.getElem_drop]
 have:i+(j-i)=j:=by omega
 simp only [this]
 omega
theorem seg_lt {l:List UInt8} (hd:Dig l) (i j:Nat) (h:i≤j) (hj:j≤l.length):seg l i j<10^(j-i):=by
 unfold seg
 have:=dval_lt _ ((hd.drop i).take (j-i))
 rwa [List.length_take,List.length_drop,Nat.min_eq_left (by omega)] at this
theorem seg_join {l:List UInt8} {i j k:Nat} (h:i≤j) (hj:j≤k) (hk:k≤l.length):seg l i k=seg l i j*10^(k-j)+seg l j k:=by
 have e:(l.drop i).take (k-i)=(l.drop i).take (j-i)++(l.drop j).take (k-j):=by
  rw [show k-i=(j-i)+(k-j) by omega,List.take_add,List.drop_drop,show i+(j-i)=j by omega]
 unfold seg
 rw [e,za7,List.length_take,List.length_drop,Nat.min_eq_left (by omega)]
theorem seg_all (l:List UInt8):seg l 0 l.length=dval l:=by
 unfold seg
 rw [Nat.sub_zero,List.drop_zero,List.take_length]
theorem limbs_inner (s:ByteArray) (hd:Dig s.data.toList) (hs:s.size≤1099511627776) (xs:List Int) (hx:xs.length<17592186044416) (i e:Nat) (hie:i≤e) (he4:e≤i+4) (hes:e≤s.size) (r:List Int)
  (hr:Ev (fun k=>c1_limbs.l0 k s (xs ++ [((seg s.data.toList i e:Nat):Int)]) ((e:Int)-4)) r) :
  ∀ (d j:Nat),d=e-j→i≤j→j≤e→Ev (fun k=>c1_limbs.l1 k s xs (e:Int) ((seg s.data.toList i j:Nat):Int) (j:Int)) r:=by
 intro d
 induction d with
 | zero =>
  intro j hdj hij hje
  have:j=e:=by omega
  subst this
  refine Ev.step (fun k => ?_) hr
  simp only [c1_limbs.l1]
  rw [if_neg (by omega),if_pos hx,w64' (by omega) (by omega)]
 | succ d ih =>
  intro j hdj hij hje
  have hjs:j<s.size:=by omega
  have hjl:j<s.data.toList.length:=by rw [zak]; exact hjs
  obtain ⟨c,hc9,hbt,hc⟩:=bt_dig hd hjs
  obtain ⟨hl2,hc2⟩:=hc _ rfl
  have hlt:=seg_lt hd i j hij (by omega)
  have hlt2:10^(j-i)≤10^4:=Nat.pow_le_pow_right (by decide) (by omega)
  have e1:wrap64 ((wrap64 (10*((seg s.data.toList i j:Nat):Int)))+(((bt s (j:Int))-48)%256))=((seg s.data.toList i (j+1):Nat):Int):=by
   have a1:wrap64 (10*((seg s.data.toList i j:Nat):Int))=10*((seg s.data.toList i j:Nat):Int):=w64' (by omega) (by omega)
   rw [seg_succ _ hij hjl,hc2,hbt,a1,w64' (by omega) (by omega)]; omega
  refine Ev.step (f:=fun k=>c1_limbs.l1 k s xs (e:Int) ((seg s.data.toList i (j+1):Nat):Int) ((j+1:Nat):Int)) (fun k => ?_) (ih (j+1) (by omega) (by omega) (by omega))
  simp only [c1_limbs.l1]
  rw [if_pos (by omega),if_pos (by omega),if_pos (by omega),e1,w64' (by omega) (by omega)]
  rfl
theorem limbs_loop (s:ByteArray) (hd:Dig s.data.toList) (hs:s.size≤1099511627776):∀ (m:Nat) (e:Int) (xs:List Int),e.toNat≤m→e≤s.size → -4≤e→Ld xs→(e≤0→lv xs=dval s.data.toList)→(0<e→e+4*xs.length=s.size∧lv xs=seg s.data.toList e.toNat s.size)→xs.length≤s.size →
  Ev (fun k=>c1_limbs.l0 k s xs e) (lim (dval s.data.toList)):=by
 intro m
 induction m using Nat.strongRecOn with
 | ind m ih =>
  intro e xs hem hes he4 hx h0 h1 hxs
  by_cases he:0<e
  ·obtain ⟨E,rfl⟩:=Int.eq_ofNat_of_zero_le (Int.le_of_lt he)
   obtain ⟨hlen,hval⟩:=h1 he
   rw [Int.toNat_natCast] at hem hval
   have hsl:s.data.toList.length=s.size:=zak s
   have key:∀ i:Nat,i≤E→E≤i+4→(i=0∨i+4=E)→Ev (fun k=>c1_limbs.j1 k s xs (E:Int) (i:Int)) (lim (dval s.data.toList)):=by
    intro i hi1 hi2 hi3
    have hlt:=seg_lt hd i E hi1 (by omega)
    have hlt2:10^(E-i)≤10^4:=Nat.pow_le_pow_right (by decide) (by omega)
    have hv2:lv (xs ++ [((seg s.data.toList i E:Nat):Int)])=seg s.data.toList i s.size:=by
     rw [zco,hval,seg_join hi1 (show E≤s.size by omega) (by omega)]
     have e4:s.size-E=4*xs.length:=by omega
     rw [e4,Nat.pow_mul]
     simp only [lv]
     rw [Int.natCast_add,Int.natCast_mul,Int.natCast_pow]
     grind
    have hfin:=ih (((E:Int)-4).toNat) (by omega) ((E:Int)-4) (xs ++ [((seg s.data.toList i E:Nat):Int)]) (Nat.le_refl _) (by omega) (by omega) (hx.append (Ld.cons (by omega) (by omega) Ld.nil))
     (fun hle=>by
      have:i=0:=by omega
      rw [hv2,this,←hsl,seg_all])
     (fun hlt=>by
      have:i=E-4:=by omega
      refine ⟨by simp; omega,?_⟩
      rw [hv2,this,show ((E:Int)-4).toNat=E-4 by omega])
     (by simp; omega)
    refine Ev.step (f:=fun k=>c1_limbs.l1 k s xs (E:Int) ((seg s.data.toList i i:Nat):Int) (i:Int)) (fun k => ?_) (limbs_inner s hd hs xs (by omega) i E hi1 hi2 (by omega) _ hfin (E-i) i rfl (Nat.le_refl _) hi1)
    simp only [c1_limbs.j1]
    rw [seg_self]; rfl
   by_cases h4:E<4
   ·refine Ev.step (f:=fun k=>c1_limbs.j1 k s xs (E:Int) ((0:Nat):Int)) (fun k => ?_) (key 0 (by omega) (by omega) (Or.inl rfl))
    simp only [c1_limbs.l0]
    rw [if_pos (by omega),w64' (by omega) (by omega),if_pos (by omega)]
    rfl
   ·refine Ev.step (f:=fun k=>c1_limbs.j1 k s xs (E:Int) ((E-4:Nat):Int)) (fun k => ?_) (key (E-4) (by omega) (by omega) (Or.inr (by omega)))
    simp only [c1_limbs.l0]
    rw [if_pos (by omega),w64' (by omega) (by omega),if_neg (by omega),show (E:Int)-4=((E-4:Nat):Int) by omega]
  ·have ht:=trim_ev xs.length xs rfl (by omega) hx
   rw [h0 (by omega),Int.toNat_natCast] at ht
   refine Ev.step (f:=fun k=>(c1_trim.f k xs).bind fun t=>some t) (fun k => ?_) (Ev.bind ht (Ev.now _))
   simp only [c1_limbs.l0]
   rw [if_neg (by omega)]
theorem limbs_ev (s:ByteArray) (hd:Dig s.data.toList) (hs:s.size≤1099511627776):Ev (fun k=>c1_limbs.f k s) (lim (dval s.data.toList)):=by
 have hsl:s.data.toList.length=s.size:=zak s
 refine limbs_loop s hd hs s.size (s.size:Int) [] (by simp) (Int.le_refl _) (by omega) Ld.nil (fun h => ?_) (fun h=>⟨by simp,?_⟩) (by simp)
 ·have:s.data.toList = []:=List.length_eq_zero_iff.1 (by omega)
  rw [this]; rfl
 ·rw [Int.toNat_natCast]
  unfold seg
  rw [Nat.sub_self,List.take_zero]; rfl
theorem limbs_T (n:Nat) (h:(T n).size≤1099511627776):Ev (fun k=>c1_limbs.f k (T n)) (lim n):=by
 have:=limbs_ev (T n) (T_can n).2.1 h
 rwa [za8] at this
end Go.Proofs.ZP
end
section
namespace Go.Proofs.ZP
open Go.RowKit Go.Proofs.ZW.Wa Go.Proofs.ZW.Wb Go.Proofs.ZW.Wc
attribute [local go_sem] zaC zaB zaM zaL zaz zay zaF zaE
mutual
def nat_Right.j0:Nat→ByteArray→Bool→Option (Bool)
 | 0,_,_=>none
 | k+1,x0,x21=>if x21=true then (some false) else (nat_Right.l0 k x0 (x0.size:Int) 0)
def nat_Right.l0:Nat→ByteArray→Int→Int→Option (Bool)
 | 0,_,_,_=>none
 | k+1,x0,x23,x24=>if x24<x23 then (if 0≤x24 then (if x24<(x0.size:Int) then (if (bt x0 x24)<48 then (some false) else (if (bt x0 x24)>57 then (some false) else (nat_Right.l0 k x0 x23 (wrap64 (x24+1))))) else (none)) else (none)) else (some true)
end
def nat_Right.f (k:Nat) (a0:ByteArray):Option (Bool):=if (a0.size:Int)=0 then (nat_Right.j0 k a0 true) else (if (a0.size:Int)>600 then (nat_Right.j0 k a0 true) else (if 0<(a0.size:Int) then (if (bt a0 0)=48 then (nat_Right.j0 k a0 (decide ((a0.size:Int)>1))) else (nat_Right.j0 k a0 false)) else (none)))
theorem nat_Right.calls (k:Nat) (a0:ByteArray) (r:Bool) (w:World) (h:nat_Right.f k a0=some r) :
  Calls Tryz.prog 194 #[.string a0] w fun e w'=>e = .returned (.bool r)∧Drawn0 w w':=by
 have H:(if (a0.size:Int)=0 then (nat_Right.j0 k a0 true) else (if (a0.size:Int)>600 then (nat_Right.j0 k a0 true) else (if 0<(a0.size:Int) then (if (bt a0 0)=48 then (nat_Right.j0 k a0 (decide ((a0.size:Int)>1))) else (nat_Right.j0 k a0 false)) else (none))))=some r:=h
 clear h
 have HC2:=Aside0.mk H
 clear H
 go_enter Tryz.func194,Tryz.ntmps194
 go_upto_region 1 with (fail)
 go_cut [21] (fun v21 wc=>∃ (kq:Nat) (x21_1:Bool),v21 = .bool x21_1∧Aside0 (nat_Right.j0 kq a0 x21_1=some r)∧Aside0 (kq≤k)∧Drawn0 w wc)
 case first =>
  have H:=HC2.out
  clear HC2
  by_cases c3:(a0.size:Int)=0
  ·rw [if_pos c3] at H
   have c3b0:((a0.size:Int) == 0)=true:=beq_iff_eq.mpr c3
   have c3b1:((a0.size:Int) != 0)=false:=bne_eq_false_iff_eq.mpr c3
   clear c3
   (first|rw [c3b0]|(simp only [i64_w,i32_w]; rw [c3b0])|skip)
   have H':=Aside0.mk H
   clear H
   go_wp2
   go_meet
   case rel=>exact ⟨_,(true),(by first|rfl|(simp; done)|(simp [*]; done)),H',⟨by first|omega|exact Nat.le_refl _⟩,by repeat (first|exact Drawn0.refl _|apply Drawn0.step)⟩
  ·rw [if_neg c3] at H
   have c3b0:((a0.size:Int) == 0)=false:=beq_eq_false_iff_ne.mpr c3
   have c3b1:((a0.size:Int) != 0)=true:=bne_iff_ne.mpr c3
   (first|rw [c3b0]|(simp only [i64_w,i32_w]; rw [c3b0])|skip)
   by_cases c4:(a0.size:Int)>600
   ·rw [if_pos c4] at H
    have c4b0:decide (600<(a0.size:Int))=true:=decide_eq_true c4
    have c4b1:decide (600<a0.size)=true:=decide_eq_true (by omega)
    clear c4
    have H':=Aside0.mk H
    clear H
    go_wp2
    go_meet
    case rel=>exact ⟨_,(true),(by first|rfl|(simp; done)|(simp [*]; done)),H',⟨by first|omega|exact Nat.le_refl _⟩,by repeat (first|exact Drawn0.refl _|apply Drawn0.step)⟩
   ·rw [if_neg c4] at H
    have c4b0:decide (600<(a0.size:Int))=false:=decide_eq_false c4
    have c4b1:decide (600<a0.size)=false:=decide_eq_false (by omega)
    clear c4
    by_cases c5:0<(a0.size:Int)
    ·rw [if_pos c5] at H
     have c5b0:decide (0<(a0.size:Int))=true:=decide_eq_true c5
     have c5b1:decide (0<a0.size)=true:=decide_eq_true (by omega)
     clear c5
     by_cases c7:(bt a0 0)=48
     ·rw [if_pos c7] at H
      have c7b0:((bt a0 0) == 48)=true:=beq_iff_eq.mpr c7
      have c7b1:((bt a0 0) != 48)=false:=bne_eq_false_iff_eq.mpr c7
      clear c7
      have H':=Aside0.mk H
      clear H
      have p6:0≤(0:Int):=(by omega)
      have q6:0<a0.size:=(by have:(0:Int)<(a0.size:Int):=of_decide_eq_true (by first|(with_reducible assumption)|assumption); omega)
      have hx6:∀ h:0<a0.size,((a0[0]'h).toNat:Int)=bt a0 0:=bt_at a0 0
      clear p6
      have qi6:(0<(a0.size:Int))=True:=eq_true (of_decide_eq_true (by first|(with_reducible assumption)|assumption))
      replace q6:=eq_true q6
      go_wp2
      go_meet
      case rel=>exact ⟨_,(decide ((a0.size:Int)>1)),(by first|rfl|(simp; done)|(simp [*]; done)),H',⟨by first|omega|exact Nat.le_refl _⟩,by repeat (first|exact Drawn0.refl _|apply Drawn0.step)⟩
     ·rw [if_neg c7] at H
      have c7b0:((bt a0 0) == 48)=false:=beq_eq_false_iff_ne.mpr c7
      have c7b1:((bt a0 0) != 48)=true:=bne_iff_ne.mpr c7
      have H':=Aside0.mk H
      clear H
      have p6:0≤(0:Int):=(by omega)
      have q6:0<a0.size:=(by have:(0:Int)<(a0.size:Int):=of_decide_eq_true (by first|(with_reducible assumption)|assumption); omega)
      have hx6:∀ h:0<a0.size,((a0[0]'h).toNat:Int)=bt a0 0:=bt_at a0 0
      clear p6
      have qi6:(0<(a0.size:Int))=True:=eq_true (of_decide_eq_true (by first|(with_reducible assumption)|assumption))
      replace q6:=eq_true q6
      go_wp2
      go_meet
      case rel=>exact ⟨_,(false),(by first|rfl|(simp; done)|(simp [*]; done)),H',⟨by first|omega|exact Nat.le_refl _⟩,by repeat (first|exact Drawn0.refl _|apply Drawn0.step)⟩
    ·rw [if_neg c5] at H
     exact absurd H (by simp)
 case rest =>
  clear HC2
  try clear c1
  try clear p2
  try clear c3
  try clear c3b0
  try clear c3b1
  try clear c4
  try clear c4b0
  try clear c4b1
  try clear c5
  try clear c5b0
  try clear c5b1
  try clear p6
  try clear q6
  try clear hx6
  try clear qi6
  try clear c7
  try clear c7b0
  try clear c7b1
  try clear p6
  try clear q6
  obtain ⟨kq,x21_1,rfl,HA,HJ1,⟨mc1,rfl⟩⟩:=hcut
  cases kq with
  | zero=>exact absurd HA.out (by simp [nat_Right.j0])
  | succ kj1 =>
   have H:=HA.out
   clear HA
   simp only [nat_Right.j0] at H
   by_cases c8:x21_1=true
   ·subst c8
    have H1:(some false)=some r:=by rw [if_pos rfl] at H; exact H
    clear H
    have H:=H1
    clear H1
    obtain rfl:=Option.some.inj H
    go_wp2
    go_ret
    exact ⟨by first|rfl|(simp; done)|(simp [*]; done),by repeat (first|exact Drawn0.refl _|apply Drawn0.step)⟩
   ·replace c8:=Bool.eq_false_iff.mpr c8
    subst c8
    have H1:(nat_Right.l0 kj1 a0 (a0.size:Int) 0)=some r:=by rw [if_neg (show ¬ (false=true) by decide)] at H; exact H
    clear H
    have H:=H1
    clear H1
    have H':=Aside0.mk H
    clear H
    go_wp2
    go_loopg [24] kj1 (fun kq v24 w'=>∃ (x24_2:Int),v24 = .int .i64 x24_2∧Aside0 (nat_Right.l0 kq a0 (a0.size:Int) x24_2=some r)∧Aside0 (kq≤kj1)∧Drawn0 w w')
    case atStart=>exact ⟨(0),(by first|rfl|(simp; done)|(simp [*]; done)),H',⟨Nat.le_refl _⟩,by repeat (first|exact Drawn0.refl _|apply Drawn0.step)⟩
    case round =>
     clear H'
     try clear c1
     try clear p2
     try clear c3
     try clear c3b0
     try clear c3b1
     try clear c4
     try clear c4b0
     try clear c4b1
     try clear c5
     try clear c5b0
     try clear c5b1
     try clear p6
     try clear q6
     try clear hx6
     try clear qi6
     try clear c7
     try clear c7b0
     try clear c7b1
     try clear c8
     try clear p2
     try clear p6
     try clear q6
     obtain ⟨x24_2,rfl,HA,HK2,⟨m2,rfl⟩⟩:=hrel
     cases gk with
     | zero=>exact absurd HA.out (by simp [nat_Right.l0])
     | succ k2 =>
      have H:=HA.out
      clear HA
      simp only [nat_Right.l0] at H
      by_cases c9:x24_2<(a0.size:Int)
      ·rw [if_pos c9] at H
       have c9b0:decide (x24_2<(a0.size:Int))=true:=decide_eq_true c9
       clear c9
       by_cases c10:0≤x24_2
       ·rw [if_pos c10] at H
        have c10b0:decide (0≤x24_2)=true:=decide_eq_true c10
        clear c10
        by_cases c11:x24_2<(a0.size:Int)
        ·rw [if_pos c11] at H
         have c11b0:decide (x24_2<(a0.size:Int))=true:=decide_eq_true c11
         clear c11
         by_cases c13:(bt a0 x24_2)<48
         ·rw [if_pos c13] at H
          have c13b0:decide ((bt a0 x24_2)<48)=true:=decide_eq_true c13
          clear c13
          obtain rfl:=Option.some.inj H
          have p12:0≤(x24_2:Int):=of_decide_eq_true (by first|(with_reducible assumption)|assumption)
          have q12:x24_2<(a0.size:Int):=of_decide_eq_true (by first|(with_reducible assumption)|assumption)
          have hx12:=bt_at a0 x24_2
          replace p12:=eq_true p12
          replace q12:=eq_true q12
          go_wp2
          go_ret
          exact ⟨by first|rfl|(simp; done)|(simp [*]; done),by repeat (first|exact Drawn0.refl _|apply Drawn0.step)⟩
         ·rw [if_neg c13] at H
          have c13b0:decide ((bt a0 x24_2)<48)=false:=decide_eq_false c13
          clear c13
          by_cases c15:(bt a0 x24_2)>57
          ·rw [if_pos c15] at H
           have c15b0:decide (57<(bt a0 x24_2))=true:=decide_eq_true c15
           clear c15
           obtain rfl:=Option.some.inj H
           have p12:0≤(x24_2:Int):=of_decide_eq_true (by first|(with_reducible assumption)|assumption)
           have q12:x24_2<(a0.size:Int):=of_decide_eq_true (by first|(with_reducible assumption)|assumption)
           have hx12:=bt_at a0 x24_2
           replace p12:=eq_true p12
           replace q12:=eq_true q12
           have p14:0≤(x24_2:Int):=of_decide_eq_true (by first|(with_reducible assumption)|assumption)
           have q14:x24_2<(a0.size:Int):=of_decide_eq_true (by first|(with_reducible assumption)|assumption)
           have hx14:=bt_at a0 x24_2
           replace p14:=eq_true p14
           replace q14:=eq_true q14
           go_wp2
           go_ret
           exact ⟨by first|rfl|(simp; done)|(simp [*]; done),by repeat (first|exact Drawn0.refl _|apply Drawn0.step)⟩
          ·rw [if_neg c15] at H
           have c15b0:decide (57<(bt a0 x24_2))=false:=decide_eq_false c15
           clear c15
           have H':=Aside0.mk H
           clear H
           have p12:0≤(x24_2:Int):=of_decide_eq_true (by first|(with_reducible assumption)|assumption)
           have q12:x24_2<(a0.size:Int):=of_decide_eq_true (by first|(with_reducible assumption)|assumption)
           have hx12:=bt_at a0 x24_2
           replace p12:=eq_true p12
           replace q12:=eq_true q12
           have p14:0≤(x24_2:Int):=of_decide_eq_true (by first|(with_reducible assumption)|assumption)
           have q14:x24_2<(a0.size:Int):=of_decide_eq_true (by first|(with_reducible assumption)|assumption)
           have hx14:=bt_at a0 x24_2
           replace p14:=eq_true p14
           replace q14:=eq_true q14
           go_wp2
           go_roundg k2
           case measure=>have:=HJ1.out; have:=HK2.out; omega
           case rel=>exact ⟨(wrap64 (x24_2+1)),(by first|rfl|(simp; done)|(simp [*]; done)),H',⟨by have:=HJ1.out; have:=HK2.out; omega⟩,by repeat (first|exact Drawn0.refl _|apply Drawn0.step)⟩
        ·rw [if_neg c11] at H
         exact absurd H (by simp)
       ·rw [if_neg c10] at H
        exact absurd H (by simp)
      ·rw [if_neg c9] at H
       have c9b0:decide (x24_2<(a0.size:Int))=false:=decide_eq_false c9
       clear c9
       obtain rfl:=Option.some.inj H
       go_wp2
       go_ret
       exact ⟨by first|rfl|(simp; done)|(simp [*]; done),by repeat (first|exact Drawn0.refl _|apply Drawn0.step)⟩
mutual
def c1_natural.j0:Nat→ByteArray→Bool→Option (Bool)
 | 0,_,_=>none
 | k+1,x0,x15=>if x15=true then (some false) else (c1_natural.l0 k x0 0)
def c1_natural.l0:Nat→ByteArray→Int→Option (Bool)
 | 0,_,_=>none
 | k+1,x0,x3=>if x3<(x0.size:Int) then (if 0≤x3 then (if (bt x0 x3)<48 then (some false) else (if (bt x0 x3)>57 then (some false) else (c1_natural.l0 k x0 (wrap64 (x3+1))))) else (none)) else (some true)
end
def c1_natural.f (k:Nat) (a0:ByteArray):Option (Bool):=if a0.toList=([]:List UInt8) then (c1_natural.j0 k a0 true) else (if 0<(a0.size:Int) then (if (bt a0 0)=48 then (c1_natural.j0 k a0 (decide ((a0.size:Int)>1))) else (c1_natural.j0 k a0 false)) else (none))
theorem c1_natural.calls (k:Nat) (a0:ByteArray) (r:Bool) (w:World) (h:c1_natural.f k a0=some r) :
  Calls Tryz.prog 176 #[.string a0] w fun e w'=>e = .returned (.bool r)∧Drawn0 w w':=by
 have H:(if a0.toList=([]:List UInt8) then (c1_natural.j0 k a0 true) else (if 0<(a0.size:Int) then (if (bt a0 0)=48 then (c1_natural.j0 k a0 (decide ((a0.size:Int)>1))) else (c1_natural.j0 k a0 false)) else (none)))=some r:=h
 clear h
 have HC2:=Aside0.mk H
 clear H
 go_enter Tryz.func176,Tryz.ntmps176
 go_upto_region 1 with (fail)
 go_cut [15] (fun v15 wc=>∃ (kq:Nat) (x15_1:Bool),v15 = .bool x15_1∧Aside0 (c1_natural.j0 kq a0 x15_1=some r)∧Aside0 (kq≤k)∧Drawn0 w wc)
 case first =>
  have H:=HC2.out
  clear HC2
  by_cases c3:a0.toList=([]:List UInt8)
  ·rw [if_pos c3] at H
   have c3b0:(a0.toList == ([]:List UInt8))=true:=beq_iff_eq.mpr c3
   have c3b1:(a0.toList != ([]:List UInt8))=false:=bne_eq_false_iff_eq.mpr c3
   clear c3
   (first|rw [c3b0]|(simp only [i64_w,i32_w]; rw [c3b0])|skip)
   have H':=Aside0.mk H
   clear H
   go_wp2
   go_meet
   case rel=>exact ⟨_,(true),(by first|rfl|(simp; done)|(simp [*]; done)),H',⟨by first|omega|exact Nat.le_refl _⟩,by repeat (first|exact Drawn0.refl _|apply Drawn0.step)⟩
  ·rw [if_neg c3] at H
   have c3b0:(a0.toList == ([]:List UInt8))=false:=beq_eq_false_iff_ne.mpr c3
   have c3b1:(a0.toList != ([]:List UInt8))=true:=bne_iff_ne.mpr c3
   (first|rw [c3b0]|(simp only [i64_w,i32_w]; rw [c3b0])|skip)
   by_cases c4:0<(a0.size:Int)
   ·rw [if_pos c4] at H
    have c4b0:decide (0<(a0.size:Int))=true:=decide_eq_true c4
    have c4b1:decide (0<a0.size)=true:=decide_eq_true (by omega)
    clear c4
    by_cases c6:(bt a0 0)=48
    ·rw [if_pos c6] at H
     have c6b0:((bt a0 0) == 48)=true:=beq_iff_eq.mpr c6
     have c6b1:((bt a0 0) != 48)=false:=bne_eq_false_iff_eq.mpr c6
     clear c6
     have H':=Aside0.mk H
     clear H
     have p5:0≤(0:Int):=(by omega)
     have q5:0<a0.size:=(by have:(0:Int)<(a0.size:Int):=of_decide_eq_true (by first|(with_reducible assumption)|assumption); omega)
     have hx5:∀ h:0<a0.size,((a0[0]'h).toNat:Int)=bt a0 0:=bt_at a0 0
     clear p5
     have qi5:(0<(a0.size:Int))=True:=eq_true (of_decide_eq_true (by first|(with_reducible assumption)|assumption))
     replace q5:=eq_true q5
     go_wp2
     go_meet
     case rel=>exact ⟨_,(decide ((a0.size:Int)>1)),(by first|rfl|(simp; done)|(simp [*]; done)),H',⟨by first|omega|exact Nat.le_refl _⟩,by repeat (first|exact Drawn0.refl _|apply Drawn0.step)⟩
    ·rw [if_neg c6] at H
     have c6b0:((bt a0 0) == 48)=false:=beq_eq_false_iff_ne.mpr c6
     have c6b1:((bt a0 0) != 48)=true:=bne_iff_ne.mpr c6
     have H':=Aside0.mk H
     clear H
     have p5:0≤(0:Int):=(by omega)
     have q5:0<a0.size:=(by have:(0:Int)<(a0.size:Int):=of_decide_eq_true (by first|(with_reducible assumption)|assumption); omega)
     have hx5:∀ h:0<a0.size,((a0[0]'h).toNat:Int)=bt a0 0:=bt_at a0 0
     clear p5
     have qi5:(0<(a0.size:Int))=True:=eq_true (of_decide_eq_true (by first|(with_reducible assumption)|assumption))
     replace q5:=eq_true q5
     go_wp2
     go_meet
     case rel=>exact ⟨_,(false),(by first|rfl|(simp; done)|(simp [*]; done)),H',⟨by first|omega|exact Nat.le_refl _⟩,by repeat (first|exact Drawn0.refl _|apply Drawn0.step)⟩
   ·rw [if_neg c4] at H
    exact absurd H (by simp)
 case rest =>
  clear HC2
  try clear c1
  try clear p2
  try clear c3
  try clear c3b0
  try clear c3b1
  try clear c4
  try clear c4b0
  try clear c4b1
  try clear p5
  try clear q5
  try clear hx5
  try clear qi5
  try clear c6
  try clear c6b0
  try clear c6b1
  try clear p5
  try clear q5
  obtain ⟨kq,x15_1,rfl,HA,HJ1,⟨mc1,rfl⟩⟩:=hcut
  cases kq with
  | zero=>exact absurd HA.out (by simp [c1_natural.j0])
  | succ kj1 =>
   have H:=HA.out
   clear HA
   simp only [c1_natural.j0] at H
   by_cases c7:x15_1=true
   ·subst c7
    have H1:(some false)=some r:=by rw [if_pos rfl] at H; exact H
    clear H
    have H:=H1
    clear H1
    obtain rfl:=Option.some.inj H
    go_wp2
    go_ret
    exact ⟨by first|rfl|(simp; done)|(simp [*]; done),by repeat (first|exact Drawn0.refl _|apply Drawn0.step)⟩
   ·replace c7:=Bool.eq_false_iff.mpr c7
    subst c7
    have H1:(c1_natural.l0 kj1 a0 0)=some r:=by rw [if_neg (show ¬ (false=true) by decide)] at H; exact H
    clear H
    have H:=H1
    clear H1
    have H':=Aside0.mk H
    clear H
    go_wp2
    go_loopg [3] kj1 (fun kq v3 w'=>∃ (x3_2:Int),v3 = .int .i64 x3_2∧Aside0 (c1_natural.l0 kq a0 x3_2=some r)∧Aside0 (kq≤kj1)∧Drawn0 w w')
    case atStart=>exact ⟨(0),(by first|rfl|(simp; done)|(simp [*]; done)),H',⟨Nat.le_refl _⟩,by repeat (first|exact Drawn0.refl _|apply Drawn0.step)⟩
    case round =>
     clear H'
     try clear c1
     try clear p2
     try clear c3
     try clear c3b0
     try clear c3b1
     try clear c4
     try clear c4b0
     try clear c4b1
     try clear p5
     try clear q5
     try clear hx5
     try clear qi5
     try clear c6
     try clear c6b0
     try clear c6b1
     try clear c7
     try clear p2
     try clear p5
     try clear q5
     obtain ⟨x3_2,rfl,HA,HK2,⟨m2,rfl⟩⟩:=hrel
     cases gk with
     | zero=>exact absurd HA.out (by simp [c1_natural.l0])
     | succ k2 =>
      have H:=HA.out
      clear HA
      simp only [c1_natural.l0] at H
      by_cases c8:x3_2<(a0.size:Int)
      ·rw [if_pos c8] at H
       have c8b0:decide (x3_2<(a0.size:Int))=true:=decide_eq_true c8
       clear c8
       by_cases c9:0≤x3_2
       ·rw [if_pos c9] at H
        have c9b0:decide (0≤x3_2)=true:=decide_eq_true c9
        clear c9
        by_cases c11:(bt a0 x3_2)<48
        ·rw [if_pos c11] at H
         have c11b0:decide ((bt a0 x3_2)<48)=true:=decide_eq_true c11
         clear c11
         obtain rfl:=Option.some.inj H
         have p10:0≤(x3_2:Int):=of_decide_eq_true (by first|(with_reducible assumption)|assumption)
         have q10:x3_2<(a0.size:Int):=of_decide_eq_true (by first|(with_reducible assumption)|assumption)
         have hx10:=bt_at a0 x3_2
         replace p10:=eq_true p10
         replace q10:=eq_true q10
         go_wp2
         go_ret
         exact ⟨by first|rfl|(simp; done)|(simp [*]; done),by repeat (first|exact Drawn0.refl _|apply Drawn0.step)⟩
        ·rw [if_neg c11] at H
         have c11b0:decide ((bt a0 x3_2)<48)=false:=decide_eq_false c11
         clear c11
         by_cases c13:(bt a0 x3_2)>57
         ·rw [if_pos c13] at H
          have c13b0:decide (57<(bt a0 x3_2))=true:=decide_eq_true c13
          clear c13
          obtain rfl:=Option.some.inj H
          have p10:0≤(x3_2:Int):=of_decide_eq_true (by first|(with_reducible assumption)|assumption)
          have q10:x3_2<(a0.size:Int):=of_decide_eq_true (by first|(with_reducible assumption)|assumption)
          have hx10:=bt_at a0 x3_2
          replace p10:=eq_true p10
          replace q10:=eq_true q10
          have p12:0≤(x3_2:Int):=of_decide_eq_true (by first|(with_reducible assumption)|assumption)
          have q12:x3_2<(a0.size:Int):=of_decide_eq_true (by first|(with_reducible assumption)|assumption)
          have hx12:=bt_at a0 x3_2
          replace p12:=eq_true p12
          replace q12:=eq_true q12
          go_wp2
          go_ret
          exact ⟨by first|rfl|(simp; done)|(simp [*]; done),by repeat (first|exact Drawn0.refl _|apply Drawn0.step)⟩
         ·rw [if_neg c13] at H
          have c13b0:decide (57<(bt a0 x3_2))=false:=decide_eq_false c13
          clear c13
          have H':=Aside0.mk H
          clear H
          have p10:0≤(x3_2:Int):=of_decide_eq_true (by first|(with_reducible assumption)|assumption)
          have q10:x3_2<(a0.size:Int):=of_decide_eq_true (by first|(with_reducible assumption)|assumption)
          have hx10:=bt_at a0 x3_2
          replace p10:=eq_true p10
          replace q10:=eq_true q10
          have p12:0≤(x3_2:Int):=of_decide_eq_true (by first|(with_reducible assumption)|assumption)
          have q12:x3_2<(a0.size:Int):=of_decide_eq_true (by first|(with_reducible assumption)|assumption)
          have hx12:=bt_at a0 x3_2
          replace p12:=eq_true p12
          replace q12:=eq_true q12
          go_wp2
          go_roundg k2
          case measure=>have:=HJ1.out; have:=HK2.out; omega
          case rel=>exact ⟨(wrap64 (x3_2+1)),(by first|rfl|(simp; done)|(simp [*]; done)),H',⟨by have:=HJ1.out; have:=HK2.out; omega⟩,by repeat (first|exact Drawn0.refl _|apply Drawn0.step)⟩
       ·rw [if_neg c9] at H
        exact absurd H (by simp)
      ·rw [if_neg c8] at H
       have c8b0:decide (x3_2<(a0.size:Int))=false:=decide_eq_false c8
       clear c8
       obtain rfl:=Option.some.inj H
       go_wp2
       go_ret
       exact ⟨by first|rfl|(simp; done)|(simp [*]; done),by repeat (first|exact Drawn0.refl _|apply Drawn0.step)⟩
def c1_Right.f (k:Nat) (a0:ByteArray):Option (Bool):=if (a0.size:Int)≤600 then ((c1_natural.f k a0).bind fun t267=>(some t267)) else (some false)
theorem c1_Right.calls (k:Nat) (a0:ByteArray) (r:Bool) (w:World) (h:c1_Right.f k a0=some r) :
  Calls Tryz.prog 94 #[.string a0] w fun e w'=>e = .returned (.bool r)∧Drawn0 w w':=by
 have H:(if (a0.size:Int)≤600 then ((c1_natural.f k a0).bind fun t267=>(some t267)) else (some false))=some r:=h
 clear h
 by_cases c2:(a0.size:Int)≤600
 ·rw [if_pos c2] at H
  have c2b0:decide ((a0.size:Int)≤600)=true:=decide_eq_true c2
  have c2b1:decide (a0.size≤600)=true:=decide_eq_true (by omega)
  clear c2
  replace H:=Option.bind_eq_some_iff.mp H
  obtain ⟨t267,A30,H⟩:=H
  replace H:(some t267)=some r:=H
  have A3:=Aside0.mk A30
  clear A30
  obtain rfl:=Option.some.inj H
  go_enter Tryz.func94,Tryz.ntmps94
  go_wp2_with (first|(go_at_call 176; (with_reducible refine (c1_natural.calls k a0 t267 _ A3.out).mono ?_); rintro e w' ⟨rfl,⟨nd,rfl⟩⟩))
  go_ret
  exact ⟨by first|rfl|(simp; done)|(simp [*]; done),by repeat (first|exact Drawn0.refl _|apply Drawn0.step)⟩
 ·rw [if_neg c2] at H
  have c2b0:decide ((a0.size:Int)≤600)=false:=decide_eq_false c2
  have c2b1:decide (a0.size≤600)=false:=decide_eq_false (by omega)
  clear c2
  obtain rfl:=Option.some.inj H
  go_enter Tryz.func94,Tryz.ntmps94
  go_wp2
  go_ret
  exact ⟨by first|rfl|(simp; done)|(simp [*]; done),by repeat (first|exact Drawn0.refl _|apply Drawn0.step)⟩
end Go.Proofs.ZP
end
section
namespace Go.Proofs.ZP
open Go.RowKit Go.Proofs.ZW.Wa
instance (l:List UInt8):Decidable (Dig l):=by unfold Dig; infer_instance
instance (l:List UInt8):Decidable (Can l):=by unfold Can; infer_instance
theorem bt_nth (s:ByteArray) {i:Nat} (h:i<s.data.toList.length):bt s (i:Int)=(s.data.toList[i].toNat:Int):=by
 have hi:i<s.size:=by rw [zak] at h; exact h
 have:=bt_at s (i:Int) (by rw [Int.toNat_natCast]; exact hi)
 rw [←this]
 simp [ByteArray.getElem_eq_getElem_data]
theorem dig_drop {l:List UInt8} {i:Nat} (h:i<l.length):Dig (l.drop i)↔(48≤l[i].toNat∧l[i].toNat≤57)∧Dig (l.drop (i+1)):=by
 rw [List.drop_eq_getElem_cons h]
 constructor
 ·intro hd
  exact ⟨hd _ List.mem_cons_self,fun c hc=>hd c (List.mem_cons_of_mem _ hc)⟩
 ·rintro ⟨h1,h2⟩ c hc
  rcases List.mem_cons.1 hc with rfl|hc
  ·exact h1
  ·exact h2 c hc
theorem nat_loop (s:ByteArray) (hs:s.size≤1099511627776):∀ (d i:Nat),d=s.size-i→i≤s.size→Ev (fun k=>nat_Right.l0 k s (s.size:Int) (i:Int)) (decide (Dig (s.data.toList.drop i))):=by
 have hl:s.data.toList.length=s.size:=zak s
 intro d
 induction d with
 | zero =>
  intro i hd hi
  have:Dig (s.data.toList.drop i):=by rw [List.drop_eq_nil_of_le (by omega)]; intro c hc; cases hc
  rw [decide_eq_true this]
  refine Ev.step (f:=fun _=>some true) (fun k => ?_) (Ev.now _)
  simp only [nat_Right.l0]
  rw [if_neg (by omega)]
 | succ d ih =>
  intro i hd hi
  have hil:i<s.data.toList.length:=by omega
  have hb:=bt_nth s hil
  have hdd:=dig_drop hil
  by_cases h1:s.data.toList[i].toNat<48
  ·rw [decide_eq_false (fun h=>by have:=(hdd.1 h).1; omega)]
   refine Ev.step (f:=fun _=>some false) (fun k => ?_) (Ev.now _)
   simp only [nat_Right.l0]
   rw [if_pos (by omega),if_pos (by omega),if_pos (by omega),hb,if_pos (by omega)]
  ·by_cases h2:s.data.toList[i].toNat>57
   ·rw [decide_eq_false (fun h=>by have:=(hdd.1 h).1; omega)]
    refine Ev.step (f:=fun _=>some false) (fun k => ?_) (Ev.now _)
    simp only [nat_Right.l0]
    rw [if_pos (by omega),if_pos (by omega),if_pos (by omega),hb,if_neg (by omega),if_pos (by omega)]
   ·have e:decide (Dig (s.data.toList.drop i))=decide (Dig (s.data.toList.drop (i+1))):=decide_eq_decide.2 ⟨fun h=>(hdd.1 h).2,fun h=>hdd.2 ⟨by omega,h⟩⟩
    rw [e]
    refine Ev.step (f:=fun k=>nat_Right.l0 k s (s.size:Int) ((i+1:Nat):Int)) (fun k => ?_) (ih (i+1) (by omega) (by omega))
    simp only [nat_Right.l0]
    rw [if_pos (by omega),if_pos (by omega),if_pos (by omega),hb,if_neg (by omega),if_neg (by omega),w64' (by omega) (by omega)]
    rfl
def rightB (s:ByteArray):Bool:=decide (Can s.data.toList∧s.size≤600)
theorem can_iff {l:List UInt8} (h:0<l.length):Can l↔Dig l∧(l[0]=48→l.length=1):=by
 have:l.head? = some l[0]:=by rw [List.head?_eq_getElem?,List.getElem?_eq_getElem h]
 unfold Can
 rw [this]
 constructor
 ·rintro ⟨_,h2,h3⟩; exact ⟨h2,fun e=>h3 (by rw [e])⟩
 ·rintro ⟨h2,h3⟩; exact ⟨h,h2,fun e=>h3 (Option.some.inj e)⟩
theorem u48 {c:UInt8}:((c.toNat:Int)=48)↔c=48:=by
 have h:(48:UInt8).toNat=48:=rfl
 constructor
 ·intro e; exact UInt8.toNat_inj.1 (by omega)
 ·intro e; rw [e,h]; rfl
theorem nat_right_ev (s:ByteArray):Ev (fun k=>nat_Right.f k s) (rightB s):=by
 have hl:s.data.toList.length=s.size:=zak s
 have hF:∀ b,b=false→Ev (fun k=>nat_Right.j0 k s true) b:=fun b hb=>by
  subst hb
  refine Ev.step (f:=fun _=>some false) (fun k => ?_) (Ev.now _)
  simp [nat_Right.j0]
 unfold nat_Right.f rightB
 by_cases h0:(s.size:Int)=0
 ·refine Ev.congr (f:=fun k=>nat_Right.j0 k s true) (fun k=>if_pos h0) (hF _ (decide_eq_false (fun h=>by have:=h.1.1; omega)))
 ·by_cases h6:(s.size:Int)>600
  ·refine Ev.congr (f:=fun k=>nat_Right.j0 k s true) (fun k=>by rw [if_neg h0,if_pos h6]) (hF _ (decide_eq_false (fun h=>by have:=h.2; omega)))
  ·have hp:0<s.data.toList.length:=by omega
   have hb:=bt_nth s hp
   have hb0:bt s 0=(s.data.toList[0].toNat:Int):=hb
   have hL:=nat_loop s (by omega) s.size 0 (by omega) (by omega)
   rw [List.drop_zero] at hL
   have hgo:∀ b:Bool,(Dig s.data.toList↔b=true)→Ev (fun k=>nat_Right.j0 k s false) b:=fun b hb=>by
    have:b=decide (Dig s.data.toList):=by
     cases b
     ·exact (decide_eq_false (fun h=>by have:=hb.1 h; cases this)).symm
     ·exact (decide_eq_true (hb.2 rfl)).symm
    rw [this]
    refine Ev.step (fun k => ?_) hL
    simp only [nat_Right.j0]
    rfl
   by_cases h48:bt s 0=48
   ·by_cases h1:(s.size:Int)>1
    ·refine Ev.congr (f:=fun k=>nat_Right.j0 k s true) (fun k=>by rw [if_neg h0,if_neg h6,if_pos (by omega),if_pos h48,decide_eq_true h1]) (hF _ (decide_eq_false (fun h => ?_)))
     have:=((can_iff hp).1 h.1).2 (u48.1 (by omega))
     omega
    ·refine Ev.congr (f:=fun k=>nat_Right.j0 k s false) (fun k=>by rw [if_neg h0,if_neg h6,if_pos (by omega),if_pos h48,decide_eq_false h1]) (hgo _ ?_)
     rw [decide_eq_true_iff,can_iff hp]
     exact ⟨fun h=>⟨⟨h,fun _=>by omega⟩,by omega⟩,fun h=>h.1.1⟩
   ·refine Ev.congr (f:=fun k=>nat_Right.j0 k s false) (fun k=>by rw [if_neg h0,if_neg h6,if_pos (by omega),if_neg h48]) (hgo _ ?_)
    rw [decide_eq_true_iff,can_iff hp]
    exact ⟨fun h=>⟨⟨h,fun e=>absurd (by rw [hb0]; exact u48.2 e) h48⟩,by omega⟩,fun h=>h.1.1⟩
theorem right_iff {s:ByteArray}:rightB s=true↔∃ n,s=T n∧n<10^600:=by
 unfold rightB
 rw [decide_eq_true_iff]
 constructor
 ·rintro ⟨h1,h2⟩
  refine ⟨dval s.data.toList,can_T h1,?_⟩
  have:=zas (n:=dval s.data.toList) (k:=600) (by decide)
  rw [←can_T h1] at this
  exact this.1 h2
 ·rintro ⟨n,rfl,hn⟩
  exact ⟨T_can n,(zas (by decide)).2 hn⟩
theorem dig_T (n:Nat):Dig (T n).data.toList:=(T_can n).2.1
theorem zaN (n:Nat):0<(T n).size:=by rw [zb2]; exact za2 n
theorem zbE (s:ByteArray) (w:World):Calls Tryz.prog 194 #[.string s] w fun e w'=>e = .returned (.bool (rightB s))∧Drawn0 w w':=by
 obtain ⟨k,hk⟩:=(nat_right_ev s).rounds
 exact nat_Right.calls k s _ w hk
theorem zcc {w w':World} (h:Drawn0 w w'):Below w.heap.size w w':=by
 obtain ⟨n,rfl⟩:=h
 exact zap _ _
theorem zcT (s:ByteArray) (w:World) (h:rightB s=false) :
  Calls Tryz.prog 107 #[.string s] w fun e w'=>e = .returned (.pointer none)∧Below w.heap.size w w':=by
 have HR:=fun W=>zbE s W
 rw [h] at HR
 clear h
 go_enter Tryz.func107,Tryz.ntmps107
 go_wp2_with fail
 refine (HR _).mono ?_
 rintro e w1 ⟨rfl,hd⟩
 have hb:=zcc hd
 go_wp2
 go_ret
 exact ⟨rfl,hb⟩
theorem zbO (n:Nat) (w:World) (h:n<10^600) :
  Calls Tryz.prog 107 #[.string (T n)] w fun e w'=>∃ D,e = .returned (.pointer (some ⟨D,0,none⟩))∧w.heap.size≤D∧IntAt w' D 0 n∧Below w.heap.size w w':=by
 have HR:=fun W=>zbE (T n) W
 rw [right_iff.2 ⟨n,rfl,h⟩] at HR
 have hs:(T n).size≤600:=(zas (by decide)).2 h
 have hu105:=Tryz.underlying105
 have HH:=Lib.hid h
 clear h
 go_enter Tryz.func107,Tryz.ntmps107
 go_wp2_with fail
 refine (HR _).mono ?_
 rintro e w1 ⟨rfl,hd⟩
 have hb1:=zcc hd
 have hnew:=IntAt.new w1 105 (by decide)
 have hba:=zaa (Below.refl w1.heap.size w1) (.cells #[.bool false,.slice none 0 0] 105)
 have hs1:=hb1.size
 clear hd
 go_wp2_with fail
 refine (zcb w1.heap.size 0 (T n) _ _ hnew.slot (dig_T n) (zaN n) (by omega)).mono ?_
 rintro e w2 ⟨rfl,hx2,hu2⟩
 rw [za8] at hx2
 have hb2:=hu2.new (bthen hb1 hba) hs1
 go_wp2
 go_ret
 exact ⟨_,rfl,hs1,hx2,hb2⟩
theorem zaK {x:Int} (h:0≤x):wtext x=T x.natAbs:=by unfold wtext T; rw [if_neg (by omega)]; rfl
theorem zaT {x:Int} (h:x<0):(wtext x).data.toList=45 :: (T x.natAbs).data.toList:=by unfold wtext; rw [if_pos h,T_data]; simp
theorem cut_minus (s:ByteArray):(∃ t,s.data.toList=45 :: t∧Lib.trimPrefix s.data.toList [45]=t∧Lib.hasPrefix s.data.toList [45]=true)∨((∀ t,s.data.toList≠45 :: t)∧Lib.trimPrefix s.data.toList [45]=s.data.toList∧Lib.hasPrefix s.data.toList [45]=false):=by
 unfold Lib.trimPrefix Lib.hasPrefix
 rcases s.data.toList with _|⟨c,t⟩
 ·exact Or.inr ⟨fun t h=>(by cases h),rfl,rfl⟩
 ·by_cases hc:c=45
  ·subst hc
   exact Or.inl ⟨t,rfl,by simp,by simp⟩
  ·have:(List.isPrefixOf [45] (c :: t))=false:=by simp [List.isPrefixOf]; exact fun h=>hc h.symm
   exact Or.inr ⟨fun t' h=>hc (by injection h),by rw [this]; rfl,this⟩
theorem zaD {s:ByteArray} {l:List UInt8} (h:s.data.toList=l):s=⟨l.toArray⟩:=by
 subst h; simp
def WR (s:ByteArray) (x:Int):Prop:=s=wtext x∧x.natAbs<10^600
theorem ten600:(10:Nat)^600≤2^2000:=by
 have h1:(10:Nat)^600=(10^3)^200:=by rw [←Nat.pow_mul]
 have h2:(2:Nat)^2000=(2^10)^200:=by rw [←Nat.pow_mul]
 rw [h1,h2]
 exact Nat.pow_le_pow_left (by decide) 200
theorem zcN (n:Nat) (t:List UInt8):(T n).data.toList≠45 :: t:=fun h=>by
 have:=dig_T n 45 (by rw [h]; exact List.mem_cons_self)
 have h2:(45:UInt8).toNat=45:=rfl
 omega
theorem zdg (x:Int) (w:World) (h:x.natAbs<10^600) :
  Calls Tryz.prog 106 #[.string (wtext x)] w fun e w'=>∃ D,e = .returned (.pointer (some ⟨D,0,none⟩))∧w.heap.size≤D∧IntAt w' D 0 x∧Below w.heap.size w w':=by
 have HN:=fun W=>zbO x.natAbs W h
 have hbd:Bd 2000 (x.natAbs:Int):=by
  unfold Bd
  rw [Int.natAbs_natCast]
  exact Nat.lt_of_lt_of_le h ten600
 have HB:=Lib.hid hbd
 clear hbd h
 by_cases hx:x<0
 ·have hd:=zaT hx
  have hc:=fun W=>Tryz.strings_CutPrefix (wtext x) ⟨#[45]⟩ W
  have e1:Lib.trimPrefix (wtext x).data.toList (⟨#[45]⟩:ByteArray).data.toList=(T x.natAbs).data.toList:=by rw [hd]; simp [Lib.trimPrefix,Lib.hasPrefix]
  have e2:Lib.hasPrefix (wtext x).data.toList (⟨#[45]⟩:ByteArray).data.toList=true:=by rw [hd]; simp [Lib.hasPrefix]
  simp only [e1,e2] at hc
  rw [←zaD (rfl:(T x.natAbs).data.toList=_)] at hc
  have hne:(((x.natAbs:Nat):Int).sign == 0)=false:=beq_eq_false_iff_ne.2 (fun h=>by have:=Int.sign_eq_zero_iff_zero.1 h; omega)
  have hneg : -((x.natAbs:Nat):Int)=x:=by omega
  have HNG:=Lib.hid hneg
  clear hd e1 e2 hneg
  go_enter Tryz.func106,Tryz.ntmps106
  go_wp2_with fail
  refine (hc _).mono ?_
  rintro e w1 ⟨rfl,rfl⟩
  go_wp2_with fail
  refine (HN _).mono ?_
  rintro e w2 ⟨D,rfl,hD,hx2,hb2⟩
  go_wp2_with fail
  refine (zaV D 0 _ _ hx2).mono ?_
  rintro e w3 ⟨rfl,rfl⟩
  go_wp2_with fail
  refine (neg_calls D 0 D 0 _ _ hx2.slot hx2 HB.out (by unfold big; omega)).mono ?_
  rintro e w3 ⟨rfl,hx3,hu3⟩
  rw [HNG.out] at hx3
  go_wp2
  go_ret
  exact ⟨_,rfl,hD,hx3,hu3.new hb2 hD⟩
 ·have hd:=zaK (show 0≤x by omega)
  rw [hd]
  have hc:=fun W=>Tryz.strings_CutPrefix (T x.natAbs) ⟨#[45]⟩ W
  have hcm:Lib.trimPrefix (T x.natAbs).data.toList (⟨#[45]⟩:ByteArray).data.toList=(T x.natAbs).data.toList∧Lib.hasPrefix (T x.natAbs).data.toList (⟨#[45]⟩:ByteArray).data.toList=false:=by
   rcases cut_minus (T x.natAbs) with ⟨t,ht,_⟩|⟨_,h1,h2⟩
   ·exact absurd ht (zcN _ _)
   ·exact ⟨h1,h2⟩
  simp only [hcm.1,hcm.2] at hc
  rw [←zaD (rfl:(T x.natAbs).data.toList=_)] at hc
  have HNG:=Lib.hid (show ((x.natAbs:Nat):Int)=x by omega)
  clear hd hcm
  go_enter Tryz.func106,Tryz.ntmps106
  go_wp2_with fail
  refine (hc _).mono ?_
  rintro e w1 ⟨rfl,rfl⟩
  go_wp2_with fail
  refine (HN _).mono ?_
  rintro e w2 ⟨D,rfl,hD,hx2,hb2⟩
  rw [HNG.out] at hx2
  go_wp2
  go_ret
  exact ⟨_,rfl,hD,hx2,hb2⟩
theorem whole_no (s:ByteArray) (w:World) (h:¬ ∃ x,WR s x) :
  Calls Tryz.prog 106 #[.string s] w fun e w'=>e = .returned (.pointer none)∧Below w.heap.size w w':=by
 have hc:=fun W=>Tryz.strings_CutPrefix s ⟨#[45]⟩ W
 rcases cut_minus s with ⟨t,ht,h1,h2⟩|⟨hno,h1,h2⟩
 ·have h1':Lib.trimPrefix s.data.toList (⟨#[45]⟩:ByteArray).data.toList=t:=h1
  have h2':Lib.hasPrefix s.data.toList (⟨#[45]⟩:ByteArray).data.toList=true:=h2
  simp only [h1',h2'] at hc
  by_cases hr:rightB ⟨t.toArray⟩=true
  ·obtain ⟨n,hn,hlt⟩:=right_iff.1 hr
   have hn0:n=0:=by
    apply Classical.byContradiction
    intro hn0
    refine h ⟨-(n:Int),?_,by omega⟩
    have e:=zaT (x:=-(n:Int)) (by omega)
    rw [show (-(n:Int)).natAbs=n by omega,←hn] at e
    have e2:s.data.toList=(wtext (-(n:Int))).data.toList:=by rw [e,ht]
    exact (zaD e2).trans (zaD rfl).symm
   subst hn0
   rw [hn] at hc
   have HN:=fun W=>zbO 0 W hlt
   clear h hr hlt h1 h2 h1' h2' ht hn
   go_enter Tryz.func106,Tryz.ntmps106
   go_wp2_with fail
   refine (hc _).mono ?_
   rintro e w1 ⟨rfl,rfl⟩
   go_wp2_with fail
   refine (HN _).mono ?_
   rintro e w2 ⟨D,rfl,hD,hx2,hb2⟩
   go_wp2_with fail
   refine (zaV D 0 _ _ hx2).mono ?_
   rintro e w3 ⟨rfl,rfl⟩
   go_wp2
   go_ret
   exact ⟨rfl,hb2⟩
  ·have HN:=fun W=>zcT ⟨t.toArray⟩ W (by simpa using hr)
   clear h hr h1 h2 h1' h2' ht
   go_enter Tryz.func106,Tryz.ntmps106
   go_wp2_with fail
   refine (hc _).mono ?_
   rintro e w1 ⟨rfl,rfl⟩
   go_wp2_with fail
   refine (HN _).mono ?_
   rintro e w2 ⟨rfl,hb2⟩
   go_wp2
   go_ret
   exact ⟨rfl,hb2⟩
 ·have h1':Lib.trimPrefix s.data.toList (⟨#[45]⟩:ByteArray).data.toList=s.data.toList:=h1
  have h2':Lib.hasPrefix s.data.toList (⟨#[45]⟩:ByteArray).data.toList=false:=h2
  simp only [h1',h2'] at hc
  rw [←zaD (rfl:s.data.toList=_)] at hc
  have hr:rightB s=false:=by
   cases hq:rightB s
   ·rfl
   ·obtain ⟨n,hn,hlt⟩:=right_iff.1 hq
    exact absurd ⟨(n:Int),by rw [hn,zaK (by omega),Int.natAbs_natCast],by omega⟩ h
  have HN:=fun W=>zcT s W hr
  clear h hr h1 h2 h1' h2' hno
  go_enter Tryz.func106,Tryz.ntmps106
  go_wp2_with fail
  refine (hc _).mono ?_
  rintro e w1 ⟨rfl,rfl⟩
  go_wp2_with fail
  refine (HN _).mono ?_
  rintro e w2 ⟨rfl,hb2⟩
  go_wp2
  go_ret
  exact ⟨rfl,hb2⟩
end Go.Proofs.ZP
end
