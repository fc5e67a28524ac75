/- Texts under the proof, joined by a program (prune.py): P34, HRev, HRatBase, SText, HString, HRat, HRatOps, HRatSet, P92. -/
import Derived.Test.YtglaeambknhjlaaGreatDoorCRatReckons01
import Derived.Test.YtglaeambknhjlaaGreatDoorCRatReckons04
set_option linter.unusedVariables false
set_option linter.unusedSimpArgs false
set_option exponentiation.threshold 20001
set_option maxHeartbeats 8000000
set_option maxRecDepth 100000
section
namespace Go.Proofs.P9
open Go.RowKit Go.Proofs.W9.Wa Go.Proofs.W9.Wb Go.Proofs.W9.Wc
attribute [local go_sem] zaC zaB zaL zaK zaz zay zaE zaD
set_option linter.unusedVariables false
set_option linter.unusedSimpArgs false
def sRbb.l0:Nat→List Int→Int→Int→Option (List Int)
 | 0,_,_,_=>none
 | k+1,x0,x2,x3=>if x2<x3 then (if 0≤x3 then (if x3<(x0.length:Int) then (if 0≤x2 then (if x2<(x0.length:Int) then (sRbb.l0 k ((x0.set (x2:Int).toNat (rd x0 x3)).set (x3:Int).toNat (rd x0 x2)) (wrap64 (x2+1)) (wrap64 (x3-1))) else (none)) else (none)) else (none)) else (none)) else (some x0)
def sRbb.f (k:Nat) (l0:List Int):Option (List Int):=sRbb.l0 k l0 0 (wrap64 ((l0.length:Int)-1))
def sRbb.T3:Bool×List (List Nat×List Nat):=(true,[([],[]),([],[]),([],[]),([],[]),([],[]),([],[]),([4,5],[4,5]),([6],[6]),([],[]),([],[]),([8,9],[8,9]),([10],[10]),([0,1,0,1,4,5,6,7,11],[0,1]),([12,7,0,1,4,5,6,7,11],[7,12]),([2,3,0,1,2,3,4,5,6,7,8,9,10,11,12,13],[2,3]),([14,11,13,0,1,2,3,4,5,6,7,8,9,10,11,12,13],[11,14])])
def sRbb.B3:List Nat:=[0,0,0,0,0,0,48,112,0,0,768,1792,4083,8179,16383,32767]
theorem sRbb.tab3:rtab .any (opsOf Tryz.f191 3)=sRbb.T3:=by kernel_rfl
theorem sRbb.bits3:waitsOk sRbb.T3.2 sRbb.B3=true:=by kernel_rfl
theorem sRbb.calls (k : Nat) (P0_ : Nat → Prop) (u9000_ : Value) (l0 : List Int) (r : List Int) (w0 w : World) (hB : Below w0.heap.size w0 w) (ho0 : Kd.R (Kd.int .u8) 5 w w0.heap.size P0_ u9000_ l0) (h : sRbb.f k l0 = some r) :
  Calls Tryz.prog 191 #[u9000_] w fun e w'=>e = .returned (.tuple #[])∧Kd.R (Kd.int .u8) 5 w' w0.heap.size (fun k_=>(P0_ k_∨w.heap.size≤k_)) u9000_ r∧Below w0.heap.size w0 w'∧Kept w w' (fun k_=>P0_ k_):=by
 have HO0:=Aside0.mk (show Kd.R (Kd.int .u8) 5 w w0.heap.size (fun k_=>(P0_ k_∨w.heap.size≤k_)) u9000_ l0 from Kd.R_mono ho0 (fun k_ hk=>(.inl hk)))
 have HK:=Aside0.mk (Kept.refl w (fun k_=>P0_ k_))
 have HW0:=Aside0.mk hB.size
 have HB:=Aside0.mk hB
 clear hB
 have H:(sRbb.l0 k l0 0 (wrap64 ((l0.length:Int)-1)))=some r:=h
 clear h
 have H':=Aside0.mk H
 clear H
 obtain ⟨Ao2,co2,eo2⟩:=Kd.R_slice HO0.out
 subst eo2
 go_enter Tryz.func191,Tryz.ntmps191
 go_wp2
 go_loopg [2,3] k (fun kq v2 v3 w'=>∃ (x0_1:List Int) (x2_1:Int) (x3_1:Int),v2 = .int .i64 x2_1∧v3 = .int .i64 x3_1∧Aside0 (sRbb.l0 kq x0_1 x2_1 x3_1=some r)∧Aside0 (kq≤k)∧Aside0 (Kd.R (Kd.int .u8) 5 w' w0.heap.size (fun k_=>(P0_ k_∨w.heap.size≤k_)) (.slice Ao2 l0.length co2) x0_1)∧Aside0 (Kept w w' (fun k_=>P0_ k_))∧Aside0 (Below w0.heap.size w0 w'))
 case atStart=>exact ⟨(l0),(0),(wrap64 ((l0.length:Int)-1)),(by first|rfl|(simp; done)|(simp [*]; done)),(by first|rfl|(simp; done)|(simp [*]; done)),H',⟨Nat.le_refl _⟩,⟨by (with_reducible repeat (first|apply Kd.R_alloc|apply Kd.R_drewN|apply Kd.R_drew)); exact HO0.out⟩,⟨by repeat (first|(with_reducible first|exact HK.out|apply Kept.alloc|apply Kept.drewN|apply Kept.drew)|exact HK.out)⟩,⟨by repeat (first|(with_reducible first|exact HB.out|apply zaa|apply zab|apply zad)|exact HB.out)⟩⟩
 case round =>
  clear H'
  try clear c1
  try clear p2
  obtain ⟨x0_1,x2_1,x3_1,rfl,rfl,HA,HK1,HO_0,HK,HB⟩:=hrel
  have hl0_1:=(Kd.R_reads' HO_0.out).1
  rw [hl0_1] at HO_0
  (try simp only [hl0_1])
  cases gk with
  | zero=>exact absurd HA.out (by simp [sRbb.l0])
  | succ k1 =>
   have H:=HA.out
   clear HA
   simp only [sRbb.l0] at H
   by_cases c3:x2_1<x3_1
   ·rw [if_pos c3] at H
    have c3b0:decide (x2_1<x3_1)=true:=decide_eq_true c3
    clear c3
    by_cases c4:0≤x3_1
    ·rw [if_pos c4] at H
     have c4b0:decide (0≤x3_1)=true:=decide_eq_true c4
     clear c4
     by_cases c5:x3_1<(x0_1.length:Int)
     ·rw [if_pos c5] at H
      have c5b0:decide (x3_1<(x0_1.length:Int))=true:=decide_eq_true c5
      clear c5
      by_cases c6:0≤x2_1
      ·rw [if_pos c6] at H
       have c6b0:decide (0≤x2_1)=true:=decide_eq_true c6
       clear c6
       by_cases c7:x2_1<(x0_1.length:Int)
       ·rw [if_pos c7] at H
        have c7b0:decide (x2_1<(x0_1.length:Int))=true:=decide_eq_true c7
        clear c7
        obtain ⟨y164,hy164⟩:∃ y_:List Int,y_=(x0_1.set (x2_1:Int).toNat (rd x0_1 x3_1)):=⟨_,rfl⟩
        replace H:(sRbb.l0 k1 (y164.set (x3_1:Int).toNat (rd x0_1 x2_1)) (wrap64 (x2_1+1)) (wrap64 (x3_1-1)))=some r:=by first|(rw [hy164]; with_reducible exact H)|(have H2_:=(Option.bind_some _ _).symm.trans H; rw [hy164]; with_reducible exact H2_)|(have H2_:=(Option.bind_some _ _).symm.trans H; with_reducible exact H2_)|with_reducible exact H|(rw [hy164]; exact H)|exact H
        have Ny164:=Aside0.mk hy164
        clear hy164
        obtain ⟨y165,hy165⟩:∃ y_:List Int,y_=(y164.set (x3_1:Int).toNat (rd x0_1 x2_1)):=⟨_,rfl⟩
        replace H:(sRbb.l0 k1 y165 (wrap64 (x2_1+1)) (wrap64 (x3_1-1)))=some r:=by first|(rw [hy165]; with_reducible exact H)|(have H2_:=(Option.bind_some _ _).symm.trans H; rw [hy165]; with_reducible exact H2_)|(have H2_:=(Option.bind_some _ _).symm.trans H; with_reducible exact H2_)|with_reducible exact H|(rw [hy165]; exact H)|exact H
        have Ny165:=Aside0.mk hy165
        clear hy165
        have H':=Aside0.mk H
        clear H
        try go_wp2
        have n0_:=Aside0.mk (Kd.R_drew HO_0.out)
        have n1_:=Aside0.mk (Kept.drew HK.out)
        have n2_:=Aside0.mk (zad HB.out)
        clear HO_0
        clear HK
        clear HB
        have HO_0:=n0_
        have HK:=n1_
        have HB:=n2_
        clear n0_ n1_ n2_
        have p162:0≤(x3_1:Int):=of_decide_eq_true (by first|(with_reducible assumption)|assumption)
        have q162:x3_1<(x0_1.length:Int):=of_decide_eq_true (by first|(with_reducible assumption)|assumption)
        obtain ⟨ad162,e162,hx162_0⟩:=Kd.at_int (Kd.R_reads' HO_0.out).2.2 x3_1 p162 q162
        cases e162
        replace p162:=eq_true p162
        replace q162:=eq_true q162
        have p163:0≤(x2_1:Int):=of_decide_eq_true (by first|(with_reducible assumption)|assumption)
        have q163:x2_1<(x0_1.length:Int):=of_decide_eq_true (by first|(with_reducible assumption)|assumption)
        obtain ⟨ad163,e163,hx163_0⟩:=Kd.at_int (Kd.R_reads' HO_0.out).2.2 x2_1 p163 q163
        obtain rfl:ad162=ad163:=(by injection e163)
        replace p163:=eq_true p163
        replace q163:=eq_true q163
        have p8:0≤(x2_1:Int):=of_decide_eq_true (by first|(with_reducible assumption)|assumption)
        have q8:(x2_1:Int)<((x0_1.length:Int):Int):=of_decide_eq_true (by first|(with_reducible assumption)|assumption)
        obtain ⟨go8,co8,eo8,gb8,gl8,cl8,HG8⟩:=Kd.R_form HO_0.out (by omega)
        (first|cases eo8|(injection eo8 with ea_ en_ ec_; (first|subst ea_|(injection ea_ with ea_; subst ea_)); subst ec_; clear en_))
        have GB8:=Aside0.mk gb8
        have GG8:=Aside0.mk HG8
        clear gb8 gl8 HG8
        have HMgo8:=Aside0.mk (show (P0_ go8∨w.heap.size≤go8) from (HO_0.out.1 _ rfl))
        (first|simp only [zbp] at hx162_0|skip)
        (first|simp only [zbp] at hx163_0|skip)
        obtain ⟨hx8_0,hf8_0⟩:=Kd.R_celln 0 HO_0.out (x2_1:Int) p8 q8
        replace p8:=eq_true p8
        replace q8:=eq_true q8
        have HP11:=Kd.R_putn HO_0.out (x2_1:Int) (rd x0_1 x3_1)
        rw [←Ny164.out] at HP11
        have HQ11:=Aside0.mk HP11
        clear HP11
        have p9:0≤(x3_1:Int):=of_decide_eq_true (by first|(with_reducible assumption)|assumption)
        have q9:(x3_1:Int)<((x0_1.length:Int):Int):=of_decide_eq_true (by first|(with_reducible assumption)|assumption)
        obtain ⟨hx9_0,hf9_0⟩:=Kd.R_celln 0 HQ11.out (x3_1:Int) p9 q9
        replace p9:=eq_true p9
        replace q9:=eq_true q9
        have HP12:=Kd.R_putn HQ11.out (x3_1:Int) (rd x0_1 x2_1)
        rw [←Ny165.out] at HP12
        have HQ12:=Aside0.mk HP12
        clear HP12
        refine start_ (n:=16) (S:=fun w'=>w'.cell? ⟨go8,(x3_1).toNat,none⟩=some (.int .u8 (rd x0_1 x3_1))∧w'.cell? ⟨go8,(x2_1).toNat,none⟩=some (.int .u8 (rd x0_1 x2_1))) (ds:=[13,15]) #[false,false,false,false,false,false,false,false,false,false,false,false,false,false,false,false] (by kernel_rfl) rfl rfl ⟨hx162_0,hx163_0⟩ (fun hHeld => ?_); refine with_tabW sRbb.tab3 sRbb.bits3 (fun HT_ HW_ => ?_)
        generalize wr.drew=w10 at HO_0 HK HB GG8 HQ11 HQ12 hf8_0 hf9_0 hx162_0 hx163_0 hx8_0 hx9_0 hHeld ⊢
        refine pure_ (i:=0) (N:=some 14) (v:=?_) (a':=?_) #[true,false,false,false,false,false,false,false,false,false,false,false,false,false,false,false] rfl rfl (zbN HT_.out (by kernel_rfl)) (fun _ _ _ h=>h) (Or.inl ⟨by rfl,?_⟩) ?_ ?_
        rotate_left
        ·intro w'
         go_simp
         with_reducible rfl
        rotate_left
        ·simp only [Act.put,List.setIfInBounds_toArray,List.set_cons_zero,List.set_cons_succ,i64_w,i32_w]
         rfl
        refine pure_ (i:=1) (N:=some 15) (v:=?_) (a':=?_) #[true,true,false,false,false,false,false,false,false,false,false,false,false,false,false,false] rfl rfl (zbN HT_.out (by kernel_rfl)) (fun _ _ _ h=>h) (Or.inl ⟨by rfl,?_⟩) ?_ ?_
        rotate_left
        ·intro w'
         go_simp
         with_reducible rfl
        rotate_left
        ·simp only [Act.put,List.setIfInBounds_toArray,List.set_cons_zero,List.set_cons_succ,i64_w,i32_w]
         rfl
        refine pure_ (i:=2) (N:=some 16) (v:=?_) (a':=?_) #[true,true,true,false,false,false,false,false,false,false,false,false,false,false,false,false] rfl rfl (zbN HT_.out (by kernel_rfl)) (fun _ _ _ h=>h) (Or.inl ⟨by rfl,?_⟩) ?_ ?_
        rotate_left
        ·intro w'
         go_simp
         with_reducible rfl
        rotate_left
        ·simp only [Act.put,List.setIfInBounds_toArray,List.set_cons_zero,List.set_cons_succ,i64_w,i32_w]
         rfl
        refine pure_ (i:=3) (N:=some 17) (v:=?_) (a':=?_) #[true,true,true,true,false,false,false,false,false,false,false,false,false,false,false,false] rfl rfl (zbN HT_.out (by kernel_rfl)) (fun _ _ _ h=>h) (Or.inl ⟨by rfl,?_⟩) ?_ ?_
        rotate_left
        ·intro w'
         go_simp
         with_reducible rfl
        rotate_left
        ·simp only [Act.put,List.setIfInBounds_toArray,List.set_cons_zero,List.set_cons_succ,i64_w,i32_w]
         rfl
        refine pure_ (i:=4) (N:=some 18) (v:=?_) (a':=?_) #[true,true,true,true,true,false,false,false,false,false,false,false,false,false,false,false] rfl rfl (zbN HT_.out (by kernel_rfl)) (fun _ _ _ h=>h) (Or.inl ⟨by rfl,?_⟩) ?_ ?_
        rotate_left
        ·intro w'
         go_simp
         with_reducible rfl
        rotate_left
        ·simp only [Act.put,List.setIfInBounds_toArray,List.set_cons_zero,List.set_cons_succ,i64_w,i32_w]
         rfl
        refine pure_ (i:=5) (N:=some 19) (v:=?_) (a':=?_) #[true,true,true,true,true,true,false,false,false,false,false,false,false,false,false,false] rfl rfl (zbN HT_.out (by kernel_rfl)) (fun _ _ _ h=>h) (Or.inl ⟨by rfl,?_⟩) ?_ ?_
        rotate_left
        ·intro w'
         go_simp
         with_reducible rfl
        rotate_left
        ·simp only [Act.put,List.setIfInBounds_toArray,List.set_cons_zero,List.set_cons_succ,i64_w,i32_w]
         rfl
        refine pure_ (i:=6) (N:=some 20) (v:=?_) (a':=?_) #[true,true,true,true,true,true,true,false,false,false,false,false,false,false,false,false] rfl rfl (zbN HT_.out (by kernel_rfl)) (fun _ _ _ h=>h) (Or.inl ⟨by rfl,?_⟩) ?_ ?_
        rotate_left
        ·intro w'
         go_simp
         with_reducible rfl
        rotate_left
        ·simp only [Act.put,List.setIfInBounds_toArray,List.set_cons_zero,List.set_cons_succ,i64_w,i32_w]
         rfl
        refine pure_ (i:=8) (N:=some 22) (v:=?_) (a':=?_) #[true,true,true,true,true,true,true,false,true,false,false,false,false,false,false,false] rfl rfl (zbN HT_.out (by kernel_rfl)) (fun _ _ _ h=>h) (Or.inl ⟨by rfl,?_⟩) ?_ ?_
        rotate_left
        ·intro w'
         go_simp
         with_reducible rfl
        rotate_left
        ·simp only [Act.put,List.setIfInBounds_toArray,List.set_cons_zero,List.set_cons_succ,i64_w,i32_w]
         rfl
        refine pure_ (i:=9) (N:=some 23) (v:=?_) (a':=?_) #[true,true,true,true,true,true,true,false,true,true,false,false,false,false,false,false] rfl rfl (zbN HT_.out (by kernel_rfl)) (fun _ _ _ h=>h) (Or.inl ⟨by rfl,?_⟩) ?_ ?_
        rotate_left
        ·intro w'
         go_simp
         with_reducible rfl
        rotate_left
        ·simp only [Act.put,List.setIfInBounds_toArray,List.set_cons_zero,List.set_cons_succ,i64_w,i32_w]
         rfl
        refine pure_ (i:=10) (N:=some 24) (v:=?_) (a':=?_) #[true,true,true,true,true,true,true,false,true,true,true,false,false,false,false,false] rfl rfl (zbN HT_.out (by kernel_rfl)) (fun _ _ _ h=>h) (Or.inl ⟨by rfl,?_⟩) ?_ ?_
        rotate_left
        ·intro w'
         go_simp
         with_reducible rfl
        rotate_left
        ·simp only [Act.put,List.setIfInBounds_toArray,List.set_cons_zero,List.set_cons_succ,i64_w,i32_w]
         rfl
        refine take_ (i:=7) (N:=some 21) (v:=?_) (a':=?_) #[true,true,true,true,true,true,true,true,true,true,true,false,false,false,false,false] rfl rfl (zci HT_.out HW_.out (by kernel_rfl)) (fun _ _ _ h=>h) (Or.inl ⟨by rfl,?_⟩) hHeld ?_ ?_
        rotate_left
        ·rintro w' ⟨s0,s1⟩
         go_simp
         with_reducible rfl
        rotate_left
        ·simp only [Act.put,List.setIfInBounds_toArray,List.set_cons_zero,List.set_cons_succ,i64_w,i32_w]
         rfl
        refine take_ (i:=11) (N:=some 25) (v:=?_) (a':=?_) #[true,true,true,true,true,true,true,true,true,true,true,true,false,false,false,false] rfl rfl (zci HT_.out HW_.out (by kernel_rfl)) (fun _ _ _ h=>h) (Or.inl ⟨by rfl,?_⟩) hHeld ?_ ?_
        rotate_left
        ·rintro w' ⟨s0,s1⟩
         go_simp
         with_reducible rfl
        rotate_left
        ·simp only [Act.put,List.setIfInBounds_toArray,List.set_cons_zero,List.set_cons_succ,i64_w,i32_w]
         rfl
        refine pure_ (i:=12) (N:=some 26) (v:=?_) (a':=?_) #[true,true,true,true,true,true,true,true,true,true,true,true,true,false,false,false] rfl rfl (zbN HT_.out (by kernel_rfl)) (fun _ _ _ h=>h) (Or.inl ⟨by rfl,?_⟩) ?_ ?_
        rotate_left
        ·intro w'
         go_simp
         with_reducible rfl
        rotate_left
        ·simp only [Act.put,List.setIfInBounds_toArray,List.set_cons_zero,List.set_cons_succ,i64_w,i32_w]
         rfl
        refine last_ (i:=13) (N:=none) #[true,true,true,true,true,true,true,true,true,true,true,true,true,true,false,false] rfl rfl (one_of HT_.out (by kernel_rfl)) (by decide) (fun K hK => ?_)
        refine skip_ (w1:=?_) (by rfl) rfl ?_ ?_
        rotate_left
        ·go_simp
         rfl
        refine hK.out _ _ ?_
        clear hK K
        refine pure_ (i:=14) (N:=some 27) (v:=?_) (a':=?_) #[true,true,true,true,true,true,true,true,true,true,true,true,true,true,true,false] rfl rfl (zbN HT_.out (by kernel_rfl)) (fun _ _ _ h=>h) (Or.inl ⟨by rfl,?_⟩) ?_ ?_
        rotate_left
        ·intro w'
         go_simp
         with_reducible rfl
        rotate_left
        ·simp only [Act.put,List.setIfInBounds_toArray,List.set_cons_zero,List.set_cons_succ,i64_w,i32_w]
         rfl
        refine last_ (i:=15) (N:=none) #[true,true,true,true,true,true,true,true,true,true,true,true,true,true,true,true] rfl rfl (one_of HT_.out (by kernel_rfl)) (by decide) (fun K hK => ?_)
        refine skip_ (w1:=?_) (by rfl) rfl ?_ ?_
        rotate_left
        ·go_simp
         rfl
        refine hK.out _ _ ?_
        clear hK K
        refine done_ (done_of HT_.out (by kernel_rfl)) ?_
        try go_wp2
        (try simp only [←hl0_1])
        go_roundg k1
        case measure=>have:=HK1.out; omega
        case rel=>exact ⟨(y165),(wrap64 (x2_1+1)),(wrap64 (x3_1-1)),(by first|rfl|(simp; done)|(simp [*]; done)),(by first|rfl|(simp; done)|(simp [*]; done)),H',⟨by have:=HK1.out; omega⟩,⟨by (try simp only [hl0_1]); (with_reducible repeat (first|apply Kd.R_alloc|apply Kd.R_drewN|apply Kd.R_drew)); exact HQ12.out⟩,⟨by repeat (first|(with_reducible first|exact HK.out|apply Kept.alloc|apply Kept.drewN|apply Kept.drew|refine Kept.setCell ?_ HMgo8.out _|refine Kept.setCell ?_ HMgo8.out _)|exact HK.out)⟩,⟨by repeat (first|(with_reducible first|exact HB.out|apply zaa|apply zab|apply zad|refine zag ?_ GB8.out|refine zag ?_ GB8.out)|exact HB.out)⟩⟩
       ·rw [if_neg c7] at H
        exact absurd H (by simp)
      ·rw [if_neg c6] at H
       exact absurd H (by simp)
     ·rw [if_neg c5] at H
      exact absurd H (by simp)
    ·rw [if_neg c4] at H
     exact absurd H (by simp)
   ·rw [if_neg c3] at H
    have c3b0:decide (x2_1<x3_1)=false:=decide_eq_false c3
    clear c3
    obtain rfl:=Option.some.inj H
    go_wp2
    first|go_end0|((try simp only [Exit.inBlock,Exit.then]); refine bodyPost_ret (results_none rfl _ _ _) rfl ?_)
    exact ⟨by first|rfl|(simp [zal,zak]<;>rfl)|(simp [*,zal,zak]<;>rfl),(by first|exact (by (with_reducible repeat (first|apply Kd.R_alloc|apply Kd.R_drewN|apply Kd.R_drew)); exact HO_0.out)|(simp only [hl0_1]; exact (by (with_reducible repeat (first|apply Kd.R_alloc|apply Kd.R_drewN|apply Kd.R_drew)); exact HO_0.out))),by repeat (first|(with_reducible first|exact HB.out|apply zaa|apply zab|apply zad)|exact HB.out),by repeat (first|(with_reducible first|exact HK.out|apply Kept.alloc|apply Kept.drewN|apply Kept.drew)|exact HK.out)⟩
end Go.Proofs.P9
end
section
set_option linter.unusedVariables false
namespace Go.Proofs.P9
open Go.RowKit Go.Proofs.W9.Wa
theorem rd_set (x:List Int) (a j:Nat) (v:Int) (h:a<x.length):rd (x.set a v) (j:Int)=if a=j then v else rd x (j:Int):=by
 split
 ·rename_i e; subst e; rw [rd_lt (by simpa using h)]; simp
 ·rename_i e; exact zdp e v
theorem rev_loop (l:List Int) (hm:l.length≤9223372036854775806):∀ (d i:Nat) (x:List Int),d=l.length-2*i→2*i≤l.length+1→x.length=l.length→(∀ j,j<l.length→rd x (j:Int)=if j<i∨l.length-1<i+j then rd l ((l.length-1-j:Nat):Int) else rd l (j:Int)) →
  ∀ k,d<k→sRbb.l0 k x (i:Int) ((l.length:Int)-1-i)=some l.reverse:=by
 intro d
 induction d using Nat.strongRecOn with
 | ind d ih =>
  intro i x hd hi hx hr k hk
  obtain ⟨k,rfl⟩:∃ k',k=k'+1:=⟨k-1,by omega⟩
  unfold sRbb.l0
  by_cases hc:2*i+1<l.length
  ·obtain ⟨m,hmm⟩:∃ m:Nat,m+i+1=l.length:=⟨l.length-i-1,by omega⟩
   have em:(l.length:Int)-1-(i:Int)=(m:Int):=by omega
   rw [em,if_pos (by omega),if_pos (by omega),if_pos (by omega),if_pos (by omega),if_pos (by omega)]
   rw [w64 (by omega) (by omega),w64 (by omega) (by omega)]
   have e2:(m:Int)-1=(l.length:Int)-1-((i+1:Nat):Int):=by omega
   rw [e2,show (i:Int)+1=((i+1:Nat):Int) by omega,Int.toNat_natCast,Int.toNat_natCast]
   refine ih (l.length-2*(i+1)) (by omega) (i+1) _ rfl (by omega) (by simpa using hx) ?_ k (by omega)
   intro j hj
   rw [rd_set _ _ _ _ (by rw [List.length_set]; omega),rd_set _ _ _ _ (by omega)]
   have r1:=hr m (by omega)
   have r2:=hr i (by omega)
   have r3:=hr j hj
   rw [if_neg (by omega)] at r1 r2
   by_cases h1:m=j
   ·subst h1; rw [if_pos rfl,if_pos (by omega),r2,show l.length-1-m=i by omega]
   ·rw [if_neg h1]
    by_cases h2:i=j
    ·subst h2; rw [if_pos rfl,if_pos (by omega),r1,show l.length-1-i=m by omega]
    ·rw [if_neg h2,r3]
     by_cases h3:j<i∨l.length-1<i+j
     ·rw [if_pos h3,if_pos (by omega)]
     ·rw [if_neg h3,if_neg (by omega)]
  ·rw [if_neg (by omega)]
   refine congrArg some (List.ext_getElem (by simpa using hx) fun j h1 h2 => ?_)
   have r3:=hr j (by omega)
   rw [rd_lt h1] at r3
   rw [r3,List.getElem_reverse,←rd_lt]
   split
   ·rfl
   ·rw [show l.length-1-j=j by omega]
theorem rev_tells (l:List Int) (hm:l.length≤9223372036854775806):sRbb.f (l.length+1) l=some l.reverse:=by
 unfold sRbb.f
 rw [w64 (by omega) (by omega)]
 have:=rev_loop l hm l.length 0 l (by omega) (by omega) rfl (fun j hj=>by rw [if_neg (by omega)]) (l.length+1) (by omega)
 simpa using this
theorem own8_of_R {w:World} {base:Nat} {ok:Nat→Prop} {v:Value} {zs:List Int} (h:Kd.R (Kd.int .u8) 5 w base ok v zs):w.ownsRow base 5 1 v zs.length (nums .u8 zs):=by
 obtain ⟨_,inner,ho,hr⟩:=h
 have e:=Kd.reps_encs hr
 subst e
 exact ho
theorem zdo (k:IntKind) (l:List Int):Reps (fun (x:Int) (cs:List Value)=>cs = [.int k x]) 1 l (nums k l):=by
 induction l with
 | nil=>exact Reps.none _ _
 | cons x xs ih=>exact Reps.one rfl ih
theorem R_of_own8 {w:World} {base:Nat} {v:Value} {zs:List Int} (h:w.ownsRow base 5 1 v zs.length (nums .u8 zs)):Kd.R (Kd.int .u8) 5 w base (fun _=>True) v zs:=
 ⟨fun _ _=>trivial,nums .u8 zs,h,zdo .u8 zs⟩
theorem rev_calls (v:Value) (l:List Int) (w0 w:World) (hB:Below w0.heap.size w0 w) (ho:w.ownsRow w0.heap.size 5 1 v l.length (nums .u8 l)) (hm:l.length≤9223372036854775806) :
  Calls Tryz.prog 191 #[v] w fun e w'=>e = .returned (.tuple #[])∧w'.ownsRow w0.heap.size 5 1 v l.reverse.length (nums .u8 l.reverse)∧Below w0.heap.size w0 w':=by
 refine (sRbb.calls (l.length+1) (fun _=>True) v l l.reverse w0 w hB (R_of_own8 ho) (rev_tells l hm)).mono fun e w' ⟨he,hr,hb,_⟩=>⟨he,own8_of_R hr,hb⟩
end Go.Proofs.P9
end
section
set_option linter.unusedVariables false
namespace Go.Proofs.P9
open Go.RowKit Go.Proofs.W9.Wa
theorem Bd.le {n:Nat} {x y:Int} (h:Bd n y) (hle:x.natAbs≤y.natAbs):Bd n x:=Nat.lt_of_le_of_lt hle h
theorem Bd.mul {n m:Nat} {x y:Int} (h:Bd n x) (k:Bd m y):Bd (n+m) (x*y):=by
 unfold Bd at *
 rw [Int.natAbs_mul,Nat.pow_add]
 rcases Nat.eq_zero_or_pos x.natAbs with hx|hx
 ·rw [hx,Nat.zero_mul]; exact Nat.mul_pos (Nat.pow_pos (by decide)) (Nat.pow_pos (by decide))
 ·exact Nat.mul_lt_mul'' h k
theorem Bd.add {n:Nat} {x y:Int} (h:Bd n x) (k:Bd n y):Bd (n+1) (x+y):=by
 unfold Bd at *
 rw [Nat.pow_succ]; omega
theorem Bd.neg {n:Nat} {x:Int} (h:Bd n x):Bd n (-x):=by unfold Bd at *; rwa [Int.natAbs_neg]
theorem Bd.abs {n:Nat} {x:Int} (h:Bd n x):Bd n (x.natAbs:Int):=by unfold Bd at *; rwa [Int.natAbs_natCast]
def Bdr (n:Nat) (x:Rat):Prop:=Bd n x.num∧Bd n (x.den:Int)
theorem Bdr.mono {n m:Nat} {x:Rat} (h:Bdr n x) (hm:n≤m):Bdr m x:=⟨h.1.mono hm,h.2.mono hm⟩
theorem div_parts (x y:Int) (hy:y≠0):(Rat.divInt x y).num=sg ((x<0) != (y<0)) ((x.natAbs/Int.gcd x y:Nat):Int)∧(Rat.divInt x y).den=y.natAbs/Int.gcd x y:=by
 have hg:Int.gcd y x=Int.gcd x y:=Int.gcd_comm y x
 constructor
 ·have hdv:((Int.gcd x y:Nat):Int)∣(x.natAbs:Int):=Int.natCast_dvd_natCast.2 (Nat.gcd_dvd_left x.natAbs y.natAbs)
  have e1:=Int.neg_ediv_of_dvd hdv
  rw [Rat.num_divInt,hg,Int.natCast_ediv]
  generalize ((Int.gcd x y:Nat):Int)=g at *
  rcases Int.lt_trichotomy y 0 with h|h|h
  ·rw [Int.sign_eq_neg_one_of_neg h]
   by_cases hx:x<0
   ·rw [show -1*x=(x.natAbs:Int) by omega]
    simp [sg,hx,h]
   ·rw [show -1*x = -(x.natAbs:Int) by omega,e1]
    simp [sg,hx,h]
  ·exact absurd h hy
  ·rw [Int.sign_eq_one_of_pos h]
   have h':¬ y<0:=by omega
   by_cases hx:x<0
   ·rw [show 1*x = -(x.natAbs:Int) by omega,e1]
    simp [sg,hx,h']
   ·rw [show 1*x=(x.natAbs:Int) by omega]
    simp [sg,hx,h']
 ·rw [Rat.den_divInt,if_neg hy,hg]
theorem Bdr.divInt {n:Nat} {x y:Int} (hy:y≠0) (h:Bd n x) (k:Bd n y):Bdr n (Rat.divInt x y):=by
 obtain ⟨h1,h2⟩:=div_parts x y hy
 constructor
 ·refine h.le ?_
  rw [h1]
  have:=Nat.div_le_self x.natAbs (Int.gcd x y)
  unfold sg
  split
  ·rw [Int.natAbs_neg,Int.natAbs_natCast]; exact this
  ·rw [Int.natAbs_natCast]; exact this
 ·refine k.le ?_
  rw [h2,Int.natAbs_natCast]
  exact Nat.div_le_self _ _
theorem zbQ (x:Rat):Rat.divInt x.num x.den=x:=Rat.num_divInt_den x
theorem add_divInt (x y:Rat):x+y=Rat.divInt (x.num*y.den+y.num*x.den) (x.den*y.den):=by
 have h1:(x.den:Int)≠0:=by have:=x.den_nz; omega
 have h2:(y.den:Int)≠0:=by have:=y.den_nz; omega
 rw [←Rat.divInt_add_divInt _ _ h1 h2,zbQ,zbQ]
theorem zcZ (x y:Rat):x*y=Rat.divInt (x.num*y.num) (x.den*y.den):=by
 rw [←Rat.divInt_mul_divInt,zbQ,zbQ]
theorem zcE (x:Rat):x⁻¹=Rat.divInt x.den x.num:=Rat.inv_def x
theorem div_divInt (x y:Rat):x/y=Rat.divInt (x.num*y.den) (x.den*y.num):=by
 rw [Rat.div_def,zcE,←Rat.divInt_mul_divInt,zbQ]
theorem den_ne (x:Rat):(x.den:Int)≠0:=by have:=x.den_nz; omega
theorem zc1 (x y:Rat):(x.den:Int)*y.den≠0:=Int.mul_ne_zero (den_ne x) (den_ne y)
theorem Bdr.add {n m:Nat} {x y:Rat} (h:Bdr n x) (k:Bdr m y):Bdr (n+m+1) (x+y):=by
 rw [add_divInt]
 refine Bdr.divInt (zc1 x y) ((h.1.mul k.2).add ?_) ((h.2.mul k.2).mono (by omega))
 have:=k.1.mul h.2
 rwa [Nat.add_comm m n] at this
theorem Bdr.mul {n m:Nat} {x y:Rat} (h:Bdr n x) (k:Bdr m y):Bdr (n+m) (x*y):=by
 rw [zcZ]
 exact Bdr.divInt (zc1 x y) (h.1.mul k.1) (h.2.mul k.2)
theorem num_ne {x:Rat} (hx:x≠0):x.num≠0:=fun h=>hx (Rat.num_eq_zero.1 h)
theorem Bdr.inv {n:Nat} {x:Rat} (h:Bdr n x) (hx:x≠0):Bdr n x⁻¹:=by
 rw [zcE]
 exact Bdr.divInt (num_ne hx) h.2 h.1
theorem Bdr.neg {n:Nat} {x:Rat} (h:Bdr n x):Bdr n (-x):=⟨by rw [Rat.neg_num]; exact h.1.neg,h.2⟩
theorem Bdr.sub {n m:Nat} {x y:Rat} (h:Bdr n x) (k:Bdr m y):Bdr (n+m+1) (x-y):=by
 rw [Rat.sub_eq_add_neg]; exact h.add k.neg
theorem Bdr.div {n m:Nat} {x y:Rat} (h:Bdr n x) (k:Bdr m y) (hy:y≠0):Bdr (n+m) (x/y):=by
 rw [Rat.div_def]; exact h.mul (k.inv hy)
theorem Bdr.int {n:Nat} {x:Int} (h:Bd n x) (hn:0<n):Bdr n (x:Rat):=⟨h,by
 show Bd n (1:Int)
 unfold Bd
 have:2^1≤2^n:=Nat.pow_le_pow_right (by decide) hn
 have:(1:Int).natAbs=1:=rfl
 omega⟩
structure RatAt (w:World) (g:Nat) (x:Rat):Prop where
 num:IntAt w g 0 x.num
 den:∃ d:Int,IntAt w g 2 d∧(d=x.den∨(d=0∧x.den=1))
theorem RatAt.slot {w:World} {g:Nat} {x:Rat} (h:RatAt w g x):Slot w g 2:=by
 obtain ⟨d,hd,_⟩:=h.den
 exact hd.slot
theorem Slot.lo {w:World} {g:Nat} (h:Slot w g 2):Slot w g 0:=by
 obtain ⟨cs,t,hb,hs,ht⟩:=h
 exact ⟨cs,t,hb,by omega,ht⟩
theorem RatAt.lt {w:World} {g:Nat} {x:Rat} (h:RatAt w g x):g<w.heap.size:=h.num.lt
theorem RatAt.upd {w w':World} {g b lo hi:Nat} {x:Rat} (h:RatAt w g x) (k:Upd w w' b lo hi) (hd:g≠b):RatAt w' g x:=by
 obtain ⟨d,h1,h2⟩:=h.den
 exact ⟨h.num.upd k (Or.inl hd),d,h1.upd k (Or.inl hd),h2⟩
theorem RatAt.below {w w':World} {g:Nat} {x:Rat} (h:RatAt w g x) (k:Below w.heap.size w w'):RatAt w' g x:=by
 obtain ⟨d,h1,h2⟩:=h.den
 exact ⟨h.num.below k,d,h1.below k,h2⟩
theorem RatAt.new (w:World) (t:TypeId) (ht:t≠171):RatAt (w.alloc (.cells #[.bool false,.slice none 0 0,.bool false,.slice none 0 0] t)) w.heap.size 0:=by
 obtain ⟨h1,h2⟩:=IntAt.newRat w t ht
 exact ⟨h1,0,h2,Or.inr ⟨rfl,rfl⟩⟩
theorem Slot.below {w w':World} {b o:Nat} (h:Slot w b o) (k:Below w.heap.size w w'):Slot w' b o:=h.upd (Upd.of_below k 0 0 0)
theorem Upd.new {w0 w w':World} {g lo hi:Nat} (k:Upd w w' g lo hi) (h:Below w0.heap.size w0 w) (hg:w0.heap.size≤g):Below w0.heap.size w0 w':=Upd.below_tmp h k hg
theorem Upd.lift {w0 w w':World} {g lo hi:Nat} (k:Upd w w' g lo hi) (h:Below w0.heap.size w0 w):Upd w0 w' g lo hi:=(Upd.of_below h _ _ _).trans k
end Go.Proofs.P9
end
section
set_option linter.unusedVariables false
namespace Go.Proofs.P9
open Go.RowKit Go.Proofs.W9.Wa
def T (n:Nat):ByteArray:=⟨(decl n).toArray⟩
theorem T_data (n:Nat):(T n).data.toList=decl n:=by simp [T]
theorem zb4 (n:Nat):(T n).size=(decl n).length:=by show (decl n).toArray.size=_; simp
theorem zbO (n:Nat):dval (T n).data.toList=n:=by rw [T_data,dval_decl]
theorem T_inj {a b:Nat} (h:T a=T b):a=b:=by rw [←zbO a,h,zbO]
theorem T_eq_iff {a b:Nat}:T a=T b↔a=b:=⟨T_inj,fun h=>by rw [h]⟩
theorem za7 (n:Nat):0<(decl n).length:=by
 unfold decl
 split
 ·simp
 ·rw [List.length_reverse,zbV (by omega)]; simp
theorem rdig_length_le {k n:Nat}:(rdig n).length≤k↔n<10^k:=by
 induction k generalizing n with
 | zero =>
  rcases Nat.eq_zero_or_pos n with h|h
  ·subst h; rw [zcr]; simp
  ·rw [zbV h]; simp; omega
 | succ k ih =>
  rcases Nat.eq_zero_or_pos n with h|h
  ·subst h; rw [zcr]; simp
   exact Nat.pow_pos (by decide)
  ·rw [zbV h,List.length_cons,Nat.succ_le_succ_iff,ih,Nat.div_lt_iff_lt_mul (by decide),Nat.pow_succ]
theorem zbW {k n:Nat} (hk:0<k):(decl n).length≤k↔n<10^k:=by
 unfold decl
 split
 ·rename_i h
  subst h
  have:=Nat.pow_pos (n:=k) (show 0<10 by decide)
  simp; omega
 ·rw [List.length_reverse,rdig_length_le]
theorem zaF {k n:Nat} (hk:0<k):(T n).size≤k↔n<10^k:=by rw [zb4,zbW hk]
theorem decl_snoc {m d:Nat} (hm:0<m) (hd:d<10):decl (10*m+d)=decl m ++ [UInt8.ofNat (48+d)]:=by
 unfold decl
 rw [if_neg (by omega),if_neg (by omega),zbV (by omega),show (10*m+d)%10=d by omega,show (10*m+d)/10=m by omega,List.reverse_cons]
theorem zbq {d:Nat} (hd:d<10):decl d = [UInt8.ofNat (48+d)]:=by
 unfold decl
 split
 ·rename_i h; subst h; rfl
 ·rw [zbV (by omega),show d%10=d by omega,show d/10=0 by omega,zcr]; rfl
def Can (l:List UInt8):Prop:=0<l.length∧Dig l∧(l.head? = some 48→l.length=1)
theorem head_decl {n:Nat} (hn:0<n):(decl n).head? ≠ some 48:=by
 induction n using Nat.strongRecOn with
 | ind n ih =>
  by_cases h:n<10
  ·rw [zbq h]
   intro he
   injection he with he
   have:=congrArg UInt8.toNat he
   rw [za5 n h] at this
   have h2:(48:UInt8).toNat=48:=rfl
   omega
  ·have e:decl n=decl (n/10) ++ [UInt8.ofNat (48+n%10)]:=by
    have:=decl_snoc (m:=n/10) (d:=n%10) (by omega) (by omega)
    rwa [show 10*(n/10)+n%10=n by omega] at this
   have h2:=ih (n/10) (by omega) (by omega)
   have h3:=za7 (n/10)
   rw [e]
   rcases hd:decl (n/10) with _|⟨c,t⟩
   ·rw [hd] at h3; simp at h3
   ·rw [hd] at h2; simpa using h2
theorem can_decl (n:Nat):Can (decl n):=by
 refine ⟨za7 n,dig_decl n,fun h => ?_⟩
 rcases Nat.eq_zero_or_pos n with h0|h0
 ·subst h0; rfl
 ·exact absurd h (head_decl h0)
theorem dval_pos {l:List UInt8} (hd:Dig l) (hl:0<l.length) (hh:l.head? ≠ some 48):0<dval l:=by
 rcases l with _|⟨c,t⟩
 ·simp at hl
 ·have h1:=hd c List.mem_cons_self
  have h2:c.toNat≠48:=fun e=>hh (by
   have:c=48:=UInt8.toNat_inj.1 e
   rw [this]; rfl)
  rw [zb2]
  have h3:=Nat.pow_pos (n:=t.length) (show 0<10 by decide)
  have h4:1*10^t.length≤(c.toNat-48)*10^t.length:=Nat.mul_le_mul_right _ (by omega)
  omega
theorem dig_ofNat {c:UInt8} (h:48≤c.toNat∧c.toNat≤57):UInt8.ofNat (48+(c.toNat-48))=c:=by
 apply UInt8.toNat_inj.1
 rw [za5 _ (by omega)]; omega
theorem zdd:∀ (m:Nat) (l:List UInt8),l.length=m→Can l→decl (dval l)=l:=by
 intro m
 induction m with
 | zero=>intro l hl h; have:=h.1; omega
 | succ m ih =>
  intro l hl h
  obtain ⟨ys,y,rfl⟩:∃ ys y,l=ys ++ [y]:=by
   have hne:l ≠ []:=by intro e; subst e; simp at hl
   exact ⟨l.dropLast,l.getLast hne,(List.dropLast_concat_getLast hne).symm⟩
  have hy:=h.2.1 y (by simp)
  have e1:dval (ys ++ [y])=10*dval ys+(y.toNat-48):=by rw [zbr]; simp [dval]; omega
  rw [e1]
  rcases ys with _|⟨c,t⟩
  ·rw [show dval []=0 from rfl,Nat.mul_zero,Nat.zero_add,zbq (by omega),dig_ofNat hy]; rfl
  ·have hd:Dig (c :: t):=fun u hu=>h.2.1 u (List.mem_append_left _ hu)
   have hh:(c :: t).head? ≠ some 48:=fun e=>by
    have:=h.2.2 (by rw [List.cons_append]; exact e)
    simp at this
   have hc:Can (c :: t):=⟨by simp,hd,fun e=>absurd e hh⟩
   rw [decl_snoc (dval_pos hd (by simp) hh) (by omega),ih (c :: t) (by simp at hl ⊢; omega) hc,dig_ofNat hy]
theorem can_T {s:ByteArray} (h:Can s.data.toList):s=T (dval s.data.toList):=by
 have:=zdd _ _ rfl h
 unfold T
 rw [this]
theorem T_can (n:Nat):Can (T n).data.toList:=by rw [T_data]; exact can_decl n
theorem zbL {a b:Nat} (h:a≤b):(decl a).length≤(decl b).length:=by
 rw [zbW (za7 b)]
 have:=(zbW (n:=b) (za7 b)).1 (Nat.le_refl _)
 omega
theorem zc3 {a b:Nat} (h:(decl a).length<(decl b).length):a<b:=by
 apply Classical.byContradiction
 intro hn
 have:=zbL (Nat.le_of_not_lt hn)
 omega
end Go.Proofs.P9
end
section
set_option linter.unusedVariables false
namespace Go.Proofs.P9
open Go.RowKit Go.Proofs.W9.Wa
def wtext (x:Int):ByteArray:=⟨((if x<0 then [45] else [])++decl x.natAbs).toArray⟩
def bints (bs:List UInt8):List Int:=bs.map fun b=>(b.toNat:Int)
structure TSt (w wr:World) (N:Nat) (v:Value) (bs:List UInt8) (A:Option Addr) (c:Nat) (us:List Int):Prop where
 own:wr.ownsRow w.heap.size 5 1 v (bints bs).length (nums .u8 (bints bs))
 wu:WAt wr A c us
 du:Wd us
 tu:us.getLast? ≠ some 0
 lu:us.length≤34359738368
 below:Below w.heap.size w wr
 eq:rdig N=bs++rdig (val us).toNat
 len:bs.length≤1099511627776
def left9 (q r k:Nat):List UInt8:=if 0<q then pad k r++rdig q else rdig r
theorem left9_start (q r:Nat) (hr:r<1000000000):rdig (q*1000000000+r)=left9 q r 9:=by
 unfold left9
 split
 ·rename_i h; exact rdig_split 9 r q hr h
 ·have:q=0:=by omega
  subst this; rw [Nat.zero_mul,Nat.zero_add]
theorem left9_more (q r k:Nat) (h:0<q∨0<r):left9 q r (k+1)=UInt8.ofNat (48+r%10) :: left9 q (r/10) k:=by
 unfold left9
 split
 ·rfl
 ·exact zbV (by omega)
theorem left9_zero (q:Nat) (r:Nat) (hr:r=0):left9 q r 0=rdig q:=by
 subst hr
 unfold left9
 split
 ·rfl
 ·have:q=0:=by omega
  subst this; rfl
theorem left9_none (k:Nat):left9 0 0 k=rdig 0:=by unfold left9; rw [if_neg (by decide)]
structure USt (w wr:World) (N:Nat) (v:Value) (bs:List UInt8) (A:Option Addr) (c:Nat) (us:List Int) (r i:Nat):Prop where
 own:wr.ownsRow w.heap.size 5 1 v (bints bs).length (nums .u8 (bints bs))
 wu:WAt wr A c us
 du:Wd us
 tu:us.getLast? ≠ some 0
 lu:us.length≤34359738368
 below:Below w.heap.size w wr
 eq:rdig N=bs++left9 (val us).toNat r (9-i)
 rl:r<10^(9-i)
theorem USt.len {w wr:World} {N:Nat} {v:Value} {bs:List UInt8} {A:Option Addr} {c:Nat} {us:List Int} {r i:Nat} (h:USt w wr N v bs A c us r i) {n:Nat} (hN:N<2^n):bs.length≤n:=by
 have h1:N<10^n:=Nat.lt_of_lt_of_le hN (Nat.pow_le_pow_left (by decide) n)
 have h2:=rdig_length_le.2 h1
 rw [h.eq,List.length_append] at h2
 omega
theorem zbZ {w w':World} {base e n:Nat} {v:Value} {xs:List Value} (h:w.ownsRow base e 1 v n xs) (hb:Below w.heap.size w w'):w'.ownsRow base e 1 v n xs:=
 World.ownsRow.kept (row:=none) h (World.grownBy.mk hb.os hb.tape hb.output hb.size (fun k hk _=>hb.block k hk)) (Classical.em _)
theorem infoU8:(Tryz.prog.info? 5).map (fun i=>(i.zero,i.size,i.bytes))=some (some (.int .u8 0),1,1):=by kernel_rfl
theorem digit_byte (r:Nat):(((UInt8.ofNat (48+r%10)).toNat:Nat):Int)=48+((r%10:Nat):Int):=by rw [za5 _ (Nat.mod_lt _ (by decide))]; omega
theorem WAt.grown {w w':World} {A:Option Addr} {c base n:Nat} {e:TypeId} {v:Value} {ws:List Int} {xs:List Value} (h:WAt w A c ws) (ho:w.ownsRow base e 1 v n xs) (he:e≠171) (hg:w.grownBy w' v.ownBlock):WAt w' A c ws:=by
 rcases hv:v.ownBlock with _|g
 ·rw [hv] at hg
  exact h.below ⟨hg.os,hg.tape,hg.output,hg.size,fun k hk=>hg.block k hk (by simp)⟩
 ·rw [hv] at hg
  refine h.keepB (g:=g) ⟨hg.os,hg.tape,hg.output,hg.size,fun k hk hne=>hg.block k hk (fun e=>hne (by injection e))⟩ (fun ad ha e2 => ?_)
  obtain ⟨cs,h1⟩:=h.typ ad ha
  obtain ⟨cs2,h2⟩:=zdt ho g hv
  rw [e2,h2] at h1
  injection h1 with h1
  injection h1 with _ h1
  exact he h1
theorem bints_snoc (bs:List UInt8) (b:UInt8):bints (bs ++ [b])=bints bs ++ [(b.toNat:Int)]:=by simp [bints]
theorem USt.more {w wr w1:World} {N:Nat} {v v1:Value} {bs:List UInt8} {A:Option Addr} {c:Nat} {us:List Int} {r:Int} {i:Nat} (h:USt w wr N v bs A c us r.toNat i) (hr:0≤r∧r<1000000000) (hi:i<9) (hc:0<us.length∨0<r) (d:Int) (hd:d=48+r%10)
  (ho:w1.ownsRow w.heap.size 5 1 v1 ((bints bs) ++ [d]).length (nums .u8 ((bints bs) ++ [d]))) (hg:(wr.alloc (.cells #[.int .u8 d] 5)).grownBy w1 v.ownBlock) (hb:Below w.heap.size w w1) :
  Hid (USt w w1 N v1 (bs ++ [UInt8.ofNat (48+r.toNat%10)]) A c us (r.tdiv 10).toNat (i+1)):=by
 have e1:d=((UInt8.ofNat (48+r.toNat%10)).toNat:Int):=by
  rw [digit_byte,hd]; omega
 rw [e1,←bints_snoc] at ho
 refine ⟨ho,?_,h.du,h.tu,h.lu,hb,?_,?_⟩
 ·exact (h.wu.below (zaa (Below.refl _ _) _)).grown (h.own.alloc _) (by decide) hg
 ·rw [h.eq,show 9-i=(9-(i+1))+1 by omega,left9_more,List.append_assoc]
  ·rw [Int.tdiv_eq_ediv_of_nonneg hr.1,show (r/10).toNat=r.toNat/10 by omega]; rfl
  ·rcases hc with hc|hc
   ·refine Or.inl ?_
    have h1:=val_pos h.du h.tu (by intro e; rw [e] at hc; simp at hc)
    have h2:(0:Int)<4294967296^(us.length-1):=Int.pow_pos (by decide)
    omega
   ·exact Or.inr (by omega)
 ·have h1:=h.rl
  rw [show 9-i=(9-(i+1))+1 by omega,Nat.pow_succ] at h1
  rw [Int.tdiv_eq_ediv_of_nonneg hr.1]
  omega
theorem mod10 {r:Int} (hr:0≤r∧r<1000000000):(48+r.tmod 10)%256=48+r%10:=by
 rw [Int.tmod_eq_emod_of_nonneg hr.1]; omega
theorem div10 {r:Int} (hr:0≤r∧r<1000000000):r.tdiv 10%4294967296=r.tdiv 10∧0≤r.tdiv 10∧r.tdiv 10<1000000000:=by
 rw [Int.tdiv_eq_ediv_of_nonneg hr.1]; omega
theorem USt.done {w wr:World} {N:Nat} {v:Value} {bs:List UInt8} {A:Option Addr} {c:Nat} {us:List Int} {r:Int} {i:Nat} (h:USt w wr N v bs A c us r.toNat i) (hr:0≤r) (hi:i≤9) (hc:i=9∨(¬ 0<us.length∧¬ 0<r)) {n:Nat} (hN:N<2^n) (hn:n≤big):Hid (TSt w wr N v bs A c us):=by
 refine ⟨h.own,h.wu,h.du,h.tu,h.lu,h.below,?_,by have:=h.len hN; unfold big at hn; omega⟩
 rw [h.eq]
 rcases hc with hc|⟨h1,h2⟩
 ·subst hc
  have h1:=h.rl
  rw [left9_zero _ _ (by simpa using h1)]
 ·have hu:us = []:=List.length_eq_zero_iff.1 (by omega)
  subst hu
  rw [show r.toNat=0 by omega,show (val []).toNat=0 from rfl,left9_none]
theorem TSt.less {w w1 wr:World} {N:Nat} {v:Value} {bs:List UInt8} {A A2:Option Addr} {c c2:Nat} {us qs:List Int} {r:Int} (h:TSt w w1 N v bs A c us) (k:WAt wr A2 c2 qs) (dq:Wd qs) (hu:0<us.length) (hv:val us=1000000000*val qs+r) (hr:0≤r):Hid (vmeas (.slice A2 qs.length c2) wr<vmeas (.slice A us.length c) w1):=by
 show _<_
 rw [vmeas_eq k,vmeas_eq h.wu]
 have h1:=val_pos h.du h.tu (by intro e; rw [e] at hu; simp at hu)
 have h2:(0:Int)<4294967296^(us.length-1):=Int.pow_pos (by decide)
 have h3:=zaA dq
 omega
theorem str_bints (bs:List UInt8):strOfNums (bints bs)=⟨bs.toArray⟩:=by
 unfold strOfNums bints
 rw [List.map_map]
 congr 2
 conv=>rhs; rw [←List.map_id bs]
 refine List.map_congr_left fun b _ => ?_
 simp
theorem zdC (bs:List UInt8):(bints bs).reverse=bints bs.reverse:=by simp [bints]
theorem TSt.text {w wr:World} {x:Int} {v:Value} {bs:List UInt8} {A:Option Addr} {c:Nat} {us:List Int} (h:TSt w wr x.natAbs v bs A c us) (hu:¬ 0<us.length) (hx:x≠0):bs.reverse=decl x.natAbs:=by
 have hu:us = []:=List.length_eq_zero_iff.1 (by omega)
 subst hu
 have h1:=h.eq
 rw [show (val []).toNat=0 from rfl,zcr,List.append_nil] at h1
 unfold decl
 rw [if_neg (by omega),h1]
theorem zcJ (b o:Nat) (x:Int) (w:World) (hx:IntAt w b o x) {n:Nat} (hs:Bd n x) (hn:n≤big) :
  Calls Tryz.prog 104 #[.pointer (some ⟨b,o,none⟩)] w fun e w'=>e = .returned (.string (wtext x))∧Below w.heap.size w w':=by
 obtain ⟨neg,A,c,ws,h1,h2,h3,h4⟩:=hx.out
 have hl1:ws.length≤34359738368:=h4.small hs hn
 by_cases h0:0<ws.length
 ·have hne : ((ws.length : Int) == 0) = false := beq_eq_false_iff_ne.2 (by omega)
  go_enter Tryz.func104,Tryz.ntmps104
  go_wp2
  go_loopw [3,4] (fun vb vw wr=>∃ (bs:List UInt8) (Aw:Option Addr) (cw:Nat) (us:List Int),vw = .slice Aw us.length cw∧Hid (TSt w wr x.natAbs vb bs Aw cw us)) (fun _ vw wr=>vmeas vw wr)
  case atStart=>exact ⟨[],A,c,ws,rfl,Lib.hid ⟨⟨rfl,Or.inl ⟨rfl,rfl⟩⟩,h3,h4.wd,h4.top,hl1,Below.refl _ _,by rw [h4.val_eq,Int.toNat_natCast]; rfl,by simp⟩⟩
  case round =>
   obtain ⟨bs,Aw,cw,us,rfl,HT⟩:=hrel
   by_cases hu:0<us.length
   ·go_wp2_with fail
    refine (small_calls Aw cw us 1000000000 _ HT.out.wu HT.out.du (by decide) (by decide) (by have:=HT.out.lu; omega)).mono ?_
    rintro e w1 ⟨A2,c2,zs,r,rfl,hw2,hz2,hzl,hs0,hs1,hv,hb2⟩
    have HV:=Lib.hid hv
    have HB2:=Lib.hid hb2
    have HZL:=Lib.hid hzl
    clear hv hb2 hzl
    go_wp2_with fail
    refine (zcp A2 c2 zs _ hw2 hz2).mono ?_
    rintro e w3 ⟨n,rfl,hcut,rfl⟩
    have HU0:=Lib.hid (show USt w w1 x.natAbs u3 bs A2 c2 (zs.take n) r.toNat 0 from ⟨zbZ HT.out.own HB2.out,hw2.take n hcut.le,hz2.take n,hcut.top,by rw [List.length_take]; have:=HT.out.lu; have:=HZL.out; omega,bthen HT.out.below HB2.out,by
     rw [HT.out.eq,←left9_start _ _ (by omega)]
     have h1:=HV.out
     have h2:=hcut.eq
     have h3:=zaA hz2
     rw [show (val us).toNat=(val (zs.take n)).toNat*1000000000+r.toNat by rw [h2]; omega],by show r.toNat<10^9; omega⟩)
    have HVQ:=Lib.hid (show val us=1000000000*val (zs.take n)+r by rw [hcut.eq]; exact HV.out)
    have hln:n=(zs.take n).length:=by rw [List.length_take]; have:=hcut.le; omega
    have HLN:=Lib.hid hln
    have HS1:=Lib.hid (And.intro hs0 hs1)
    clear hln HV HB2 HZL hw2 hz2 hcut hs0 hs1
    generalize hzn:zs.take n=qs at *
    clear hzn
    rw [HLN.out]
    clear HLN
    go_wp2
    go_loopw [3,6,7] (fun vb vr vi wr'=>∃ (bs':List UInt8) (i:Nat) (R':Int),i≤9∧Hid (0≤R'∧R'<1000000000)∧vr = .int .u32 R'∧vi = .int .i64 i∧Hid (USt w wr' x.natAbs vb bs' A2 c2 qs R'.toNat i)) (fun _ _ vi _=>9-(intOf vi).toNat)
    case atStart=>exact ⟨bs,0,r,by omega,HS1,rfl,by go_num,HU0⟩
    case round =>
     obtain ⟨bs',i,R',hi9,hR9,rfl,rfl,HU⟩:=hrel
     obtain ⟨A8,c8,rfl,hr8⟩:=zbY HU.out.own
     clear hr8
     by_cases hi:i<9
     ·have hiI:(i:Int)<9:=by omega
      by_cases hq:0<qs.length
      ·have hqI:(0:Int)<(qs.length:Int):=by omega
       have hrow:=HU.out.own.alloc (.cells #[.int .u8 ((48+R'.tmod 10)%256)] 5)
       have HRW:=Lib.hid hrow
       have hlit:=zcM wr wr.heap.size 5 .u8 [(48+R'.tmod 10)%256] (Nat.le_refl _) (by simp)
       have HRL:=Lib.hid (zb9 hlit)
       have hbw:=bthen HU.out.below (zaa (Below.refl wr.heap.size wr) (.cells #[.int .u8 ((48+R'.tmod 10)%256)] 5))
       have HBW:=Lib.hid hbw
       have hsb:=hbw.size
       have hll:((bints bs').length+1)*1≤140737488355328:=by have:=HU.out.len hs; unfold big at hn; unfold bints; rw [List.length_map]; omega
       clear hrow hlit hbw
       go_wp2_with (at_builtin; refine zaW w.heap.size rfl _ _ 95 5 .u8 1 rfl Tryz.underlying95 infoU8 (by decide) (.slice A8 (bints bs').length c8) (bints bs') [(48+R'.tmod 10)%256] (some ⟨wr.heap.size,0,none⟩) 1 1 rfl rfl HRW.out HRL.out HBW.out hsb hll ?_; intro v1 w1 hown hb hg hat)
       have HU2:=HU.out.more hR9.out hi (Or.inl hq) _ (mod10 hR9.out) hown hg hb
       have HDV:=Lib.hid (div10 hR9.out)
       clear hown hg hat
       go_wp2
       go_roundw
       case rel=>exact ⟨_,i+1,R'.tdiv 10,by omega,HDV.out.2,congrArg (Value.int .u32) HDV.out.1,by go_num,HU2⟩
       case measure=>simp [intOf]; omega
      ·have hqI:¬ (0:Int)<(qs.length:Int):=by omega
       by_cases hR:0<R'
       ·skip
        have hrow:=HU.out.own.alloc (.cells #[.int .u8 (48+R'%10)] 5)
        have HRW:=Lib.hid hrow
        have hlit:=zcM wr wr.heap.size 5 .u8 [48+R'%10] (Nat.le_refl _) (by simp)
        have HRL:=Lib.hid (zb9 hlit)
        have hbw:=bthen HU.out.below (zaa (Below.refl wr.heap.size wr) (.cells #[.int .u8 (48+R'%10)] 5))
        have HBW:=Lib.hid hbw
        have hsb:=hbw.size
        have hll:((bints bs').length+1)*1≤140737488355328:=by have:=HU.out.len hs; unfold big at hn; unfold bints; rw [List.length_map]; omega
        clear hrow hlit hbw
        go_wp2_with (at_builtin; refine zaW w.heap.size rfl _ _ 95 5 .u8 1 rfl Tryz.underlying95 infoU8 (by decide) (.slice A8 (bints bs').length c8) (bints bs') [48+R'%10] (some ⟨wr.heap.size,0,none⟩) 1 1 rfl rfl HRW.out HRL.out HBW.out hsb hll ?_; intro v1 w1 hown hb hg hat)
        have HU2:=HU.out.more hR9.out hi (Or.inr hR) _ rfl hown hg hb
        have HDV:=Lib.hid (div10 hR9.out)
        clear hown hg hat
        go_wp2
        go_roundw
        case rel=>exact ⟨_,i+1,R'.tdiv 10,by omega,HDV.out.2,congrArg (Value.int .u32) HDV.out.1,by go_num,HU2⟩
        case measure=>simp [intOf]; omega
       ·skip
        have HT2:=HU.out.done hR9.out.1 hi9 (Or.inr ⟨hq,hR⟩) hs hn
        have HM:=HT.out.less HU.out.wu HU.out.du hu HVQ.out HS1.out.1
        go_wp2
        go_roundw
        case rel=>exact ⟨bs',A2,c2,qs,rfl,HT2⟩
        case measure=>exact HM.out
     ·have hiI:¬ (i:Int)<9:=by omega
      skip
      have HT2:=HU.out.done hR9.out.1 hi9 (Or.inl (by omega)) hs hn
      have HM:=HT.out.less HU.out.wu HU.out.du hu HVQ.out HS1.out.1
      go_wp2
      go_roundw
      case rel=>exact ⟨bs',A2,c2,qs,rfl,HT2⟩
      case measure=>exact HM.out
   ·have h1':=bcell HT.out.below h1
    have hx0:x≠0:=fun e=>by have:=h4.nil_iff.2 e; subst this; simp at h0
    have HTX:=Lib.hid (HT.out.text hu hx0)
    have hng:=h4.neg_iff
    have HNG:=Lib.hid hng
    have HLB:=Lib.hid HT.out.len
    clear hng hx0
    cases neg
    ·obtain ⟨A9,c9,rfl,hr9⟩:=zbY HT.out.own
     clear hr9
     go_wp2_with fail
     refine (rev_calls (.slice A9 (bints bs).length c9) (bints bs) w _ HT.out.below HT.out.own (by have:=HT.out.len; unfold bints; rw [List.length_map]; omega)).mono ?_
     rintro e w5 ⟨rfl,ho5,hb5⟩
     have hcv:=zcV (P:=Tryz.prog) Tryz.underlying95 Tryz.underlying5 Tryz.underlying9 ho5
     go_wp2
     go_ret
     refine ⟨?_,hb5⟩
     have:strOfNums (bints bs).reverse=wtext x:=by
      rw [zdC,str_bints,HTX.out]
      unfold wtext
      rw [if_neg (fun h=>by have:=HNG.out.2 h; revert this; simp)]; rfl
     exact congrArg (fun v=>Ending.returned (.string v)) this
    ·obtain ⟨A9,c9,rfl,hr9⟩:=zbY HT.out.own
     clear hr9
     have hrow:=HT.out.own.alloc (.cells #[.int .u8 45] 5)
     have HRW:=Lib.hid hrow
     have hlit:=zcM wr wr.heap.size 5 .u8 [45] (Nat.le_refl _) (by simp)
     have HRL:=Lib.hid (zb9 hlit)
     have hbw:=bthen HT.out.below (zaa (Below.refl wr.heap.size wr) (.cells #[.int .u8 45] 5))
     have HBW:=Lib.hid hbw
     have hsb:=hbw.size
     have hll:((bints bs).length+1)*1≤140737488355328:=by have:=HLB.out; unfold bints; rw [List.length_map]; omega
     clear hrow hlit hbw
     go_wp2_with (at_builtin; refine zaW w.heap.size rfl _ _ 95 5 .u8 1 rfl Tryz.underlying95 infoU8 (by decide) (.slice A9 (bints bs).length c9) (bints bs) [45] (some ⟨wr.heap.size,0,none⟩) 1 1 rfl rfl HRW.out HRL.out HBW.out hsb hll ?_; intro v1 w1 hown hb hg hat)
     clear hg hat
     have hown2:w1.ownsRow w.heap.size 5 1 v1 (bints (bs ++ [45])).length (nums .u8 (bints (bs ++ [45]))):=by rw [bints_snoc]; exact hown
     have HO2:=Lib.hid hown2
     clear hown hown2
     obtain ⟨A7,c7,rfl,hr7⟩:=zbY HO2.out
     clear hr7
     go_wp2_with fail
     refine (rev_calls (.slice A7 (bints (bs ++ [45])).length c7) (bints (bs ++ [45])) w _ hb HO2.out (by have:=HLB.out; unfold bints; rw [List.length_map,List.length_append]; simp; omega)).mono ?_
     rintro e w5 ⟨rfl,ho5,hb5⟩
     have hcv:=zcV (P:=Tryz.prog) Tryz.underlying95 Tryz.underlying5 Tryz.underlying9 ho5
     go_wp2
     go_ret
     refine ⟨?_,hb5⟩
     have:strOfNums (bints (bs ++ [45])).reverse=wtext x:=by
      rw [zdC,str_bints,List.reverse_append,HTX.out]
      unfold wtext
      rw [if_pos (HNG.out.1 (by first|rfl|trivial))]; rfl
     exact congrArg (fun v=>Ending.returned (.string v)) this
 ·have hws:ws = []:=List.length_eq_zero_iff.1 (by omega)
  subst hws
  have hx0:x=0:=h4.nil_iff.1 rfl
  subst hx0
  clear h4 h0
  go_enter Tryz.func104,Tryz.ntmps104
  go_wp2
  go_ret
  exact ⟨rfl,Below.refl _ _⟩
end Go.Proofs.P9
end
section
set_option linter.unusedVariables false
namespace Go.Proofs.P9
open Go.RowKit Go.Proofs.W9.Wa
theorem num_calls (g:Nat) (x:Rat) (w:World) (hx:RatAt w g x) {n:Nat} (hs:Bdr n x) (hn:n≤big) :
  Calls Tryz.prog 155 #[.pointer (some ⟨g,0,none⟩)] w fun e w'=>e = .returned (.pointer (some ⟨w.heap.size,0,none⟩))∧IntAt w' w.heap.size 0 x.num∧Below w.heap.size w w':=by
 have hnew:=IntAt.new w 105 (by decide)
 have hu105:=Tryz.underlying105
 have hba:=zaa (Below.refl w.heap.size w) (.cells #[.bool false,.slice none 0 0] 105)
 have hlt:=hx.lt
 go_enter Tryz.func155,Tryz.ntmps155
 go_wp2_with fail
 refine (zcK w.heap.size 0 g 0 x.num _ hnew.slot (hx.num.below hba) (Or.inl (by omega)) hs.1 hn).mono ?_
 rintro e w1 ⟨rfl,hx1,hu1⟩
 go_wp2
 go_ret
 exact ⟨rfl,hx1,hu1.new hba (Nat.le_refl _)⟩
theorem denom_calls (g:Nat) (x:Rat) (w:World) (hx:RatAt w g x) {n:Nat} (hs:Bdr n x) (hn:n≤big) :
  Calls Tryz.prog 157 #[.pointer (some ⟨g,0,none⟩)] w fun e w'=>e = .returned (.pointer (some ⟨w.heap.size,0,none⟩))∧IntAt w' w.heap.size 0 x.den∧Below w.heap.size w w':=by
 obtain ⟨d,hd,he⟩:=hx.den
 have hnew:=IntAt.new w 105 (by decide)
 have hu105:=Tryz.underlying105
 have hba:=zaa (Below.refl w.heap.size w) (.cells #[.bool false,.slice none 0 0] 105)
 have hlt:=hx.lt
 by_cases h0:d=0
 ·have hd1:x.den=1:=by
   rcases he with h|h
   ·exact absurd (h.symm.trans h0) (den_ne x)
   ·exact h.2
  rw [hd1]
  subst h0
  clear he hd1
  go_enter Tryz.func157,Tryz.ntmps157
  go_wp2_with fail
  refine (zaP g 2 0 _ hd).mono ?_
  rintro e w1 ⟨rfl,rfl⟩
  go_wp2_with fail
  refine (zcl 1 _ (by decide) (by decide)).mono ?_
  rintro e w1 ⟨rfl,hx1,hb1⟩
  go_wp2
  go_ret
  exact ⟨rfl,hx1,hb1⟩
 ·have hd1:d=x.den:=by
   rcases he with h|h
   ·exact h
   ·exact absurd h.1 h0
  subst hd1
  have hsg:((x.den:Int).sign == 0)=false:=beq_eq_false_iff_ne.2 (fun h=>h0 (Int.sign_eq_zero_iff_zero.1 h))
  clear he h0
  go_enter Tryz.func157,Tryz.ntmps157
  go_wp2_with fail
  refine (zaP g 2 x.den _ hd).mono ?_
  rintro e w1 ⟨rfl,rfl⟩
  go_wp2_with fail
  refine (zcK w.heap.size 0 g 2 x.den _ hnew.slot (hd.below hba) (Or.inl (by omega)) hs.2 hn).mono ?_
  rintro e w1 ⟨rfl,hx1,hu1⟩
  go_wp2
  go_ret
  exact ⟨rfl,hx1,hu1.new hba (Nat.le_refl _)⟩
theorem tdiv_abs (a g:Nat):((a:Int)).tdiv (g:Int)=((a/g:Nat):Int):=by
 rw [Int.tdiv_eq_ediv_of_nonneg (by omega),Int.natCast_ediv]
theorem zaY (g b1 o1 b2 o2:Nat) (x y:Int) (w:World) (hz:Slot w g 2) (hx:IntAt w b1 o1 x) (hy:IntAt w b2 o2 y) (hy0:y≠0) {n:Nat} (hs:Bd n x) (ht:Bd n y) (hn:n≤big) :
  Calls Tryz.prog 109 #[.pointer (some ⟨g,0,none⟩),.pointer (some ⟨b1,o1,none⟩),.pointer (some ⟨b2,o2,none⟩)] w fun e w'=>e = .returned (.pointer (some ⟨g,0,none⟩))∧RatAt w' g (Rat.divInt x y)∧Upd w w' g 0 4:=by
 have hu105:=Tryz.underlying105
 have hlt1:=hx.lt
 have hlt2:=hy.lt
 have hltg:=hz.lt
 have hparts:=div_parts x y hy0
 have HP:=Lib.hid hparts
 clear hparts
 have hnew0:=IntAt.new w 105 (by decide)
 have hba0:=zaa (Below.refl w.heap.size w) (.cells #[.bool false,.slice none 0 0] 105)
 go_enter Tryz.func109,Tryz.ntmps109
 go_wp2_with fail
 refine (zcQ w.heap.size 0 b1 o1 x _ hnew0.slot (hx.below hba0) hs hn).mono ?_
 rintro e w1 ⟨rfl,hp1,hu1⟩
 have hb1:=hu1.new hba0 (Nat.le_refl _)
 have hnew1:=IntAt.new w1 105 (by decide)
 have hba1:=zaa (Below.refl w1.heap.size w1) (.cells #[.bool false,.slice none 0 0] 105)
 have hs1:=hb1.size
 have hP:=hp1.lt
 go_wp2_with fail
 refine (zcQ w1.heap.size 0 b2 o2 y _ hnew1.slot ((hy.below hb1).below hba1) ht hn).mono ?_
 rintro e w2 ⟨rfl,hq2,hu2⟩
 have hB2:=hu2.new (bthen hb1 hba1) (by have:=hb1.size; omega)
 have hs2:=hu2.size
 have hp2:=(hp1.below hba1).upd hu2 (Or.inl (by omega))
 have hQ:=hq2.lt
 obtain ⟨na,Aa,ca,xs,h1,-,-,hN1⟩:=(hx.below hB2).out
 obtain ⟨nb,Ab,cb,ys,k1,-,-,hN2⟩:=(hy.below hB2).out
 have HNA:=Lib.hid hN1.neg_iff
 have HNB:=Lib.hid hN2.neg_iff
 have HPQ:=Lib.hid (And.intro hp2 hq2)
 have HB2:=Lib.hid hB2
 clear hN1 hN2 hnew0 hba0 hp1 hu1 hb1 hnew1 hba1 hq2 hu2 hp2 hB2 hs2
 have hPQ:w.heap.size<w1.heap.size:=hP
 generalize hPe:w.heap.size=P at *
 generalize hQe:w1.heap.size=Q at *
 go_wp2_with fail
 go_quiet (fail)
 generalize hqd:w2.drewN _=w3
 have hb3:Below w2.heap.size w2 w3:=by subst hqd; exact zao _ _
 clear hqd h1 k1
 have hp3:=HPQ.out.1.below hb3
 have hq3:=HPQ.out.2.below hb3
 have hB3:Below P w w3:=by have h:=bthen (w:=w) (by rw [hPe]; exact HB2.out) hb3; rwa [hPe] at h
 have hnew3:=IntAt.new w3 105 (by decide)
 have hba3:=zaa (Below.refl w3.heap.size w3) (.cells #[.bool false,.slice none 0 0] 105)
 have hltp:=hp3.lt
 have hltq:=hq3.lt
 clear HPQ HB2 hb3
 go_wp2_with fail
 refine (gcd_calls w3.heap.size 0 P 0 Q 0 _ _ (x.natAbs:Int) (y.natAbs:Int) _ hnew3.slot (hp3.below hba3) (hq3.below hba3) (by omega) (by omega) hs.abs ht.abs hn).mono ?_
 rintro e w4 ⟨rfl,hg4,hu4⟩
 have hg4':IntAt w4 w3.heap.size 0 ((Int.gcd x y:Nat):Int):=hg4
 have hp4:=(hp3.below hba3).upd hu4 (Or.inl (by omega))
 have hq4:=(hq3.below hba3).upd hu4 (Or.inl (by omega))
 have hb34:=hu4.new hba3 (Nat.le_refl _)
 have hB4:Below P w w4:=by have h:=bthen (w:=w) (by rw [hPe]; exact hB3) hb34; rwa [hPe] at h
 have hltg4:=hg4.lt
 clear hg4 hu4 hnew3 hba3 hp3 hq3 hb34 hB3
 generalize w3.heap.size=G at *
 go_wp2_with fail
 refine (zcl 1 _ (by decide) (by decide)).mono ?_
 rintro e w5 ⟨rfl,hn5,hb5⟩
 have hg5:=hg4'.below hb5
 have hp5:=hp4.below hb5
 have hq5:=hq4.below hb5
 have hB5:Below P w w5:=by have h:=bthen (w:=w) (by rw [hPe]; exact hB4) hb5; rwa [hPe] at h
 clear hg4' hp4 hq4 hb5 hB4
 generalize w4.heap.size=N1 at *
 go_wp2_with fail
 refine (zdB G 0 N1 0 ((Int.gcd x y:Nat):Int) 1 _ hg5 hn5).mono ?_
 rintro e w6 ⟨rfl,hb6⟩
 have hg6:=hg5.below hb6
 have hp6:=hp5.below hb6
 have hq6:=hq5.below hb6
 have hB6:Below P w w6:=by have h:=bthen (w:=w) (by rw [hPe]; exact hB5) hb6; rwa [hPe] at h
 clear hg5 hp5 hq5 hb6 hB5 hn5
 have hgpos:0<Int.gcd x y:=Int.gcd_pos_of_ne_zero_right _ hy0
 by_cases h1:1<Int.gcd x y
 ·have hsg:(((Int.gcd x y:Nat):Int)-1).sign=1:=Int.sign_eq_one_of_pos (by omega)
  rw [hsg]
  have hgb:Bd n ((Int.gcd x y:Nat):Int):=ht.le (by rw [Int.natAbs_natCast]; exact Nat.gcd_le_right _ (by omega))
  have hgn:((Int.gcd x y:Nat):Int)≠0:=by omega
  clear hsg
  go_wp2_with fail
  refine (quo_calls P 0 P 0 G 0 (x.natAbs:Int) ((Int.gcd x y:Nat):Int) _ hp6.slot hp6 hg6 hgn hs.abs hn).mono ?_
  rintro e w7 ⟨rfl,hp7,hu7⟩
  rw [tdiv_abs] at hp7
  have hg7:=hg6.upd hu7 (Or.inl (by omega))
  have hq7:=hq6.upd hu7 (Or.inl (by omega))
  go_wp2_with fail
  refine (quo_calls Q 0 Q 0 G 0 (y.natAbs:Int) ((Int.gcd x y:Nat):Int) _ hq7.slot hq7 hg7 hgn ht.abs hn).mono ?_
  rintro e w8 ⟨rfl,hqx,hu8⟩
  rw [tdiv_abs] at hqx
  have hpx:=hp7.upd hu8 (Or.inl (by omega))
  have hbx:Below P w w8:=by
   have h:=hu8.new (w0:=w) (hu7.new (w0:=w) (by rw [hPe]; exact hB6) (by omega)) (by omega)
   rwa [hPe] at h
  clear hgb hgn hp7 hu7 hg7 hq7 hu8 hg6 hp6 hq6 hB6
  have HA:=Lib.hid (And.intro hpx hqx)
  have HBX:=Lib.hid hbx
  clear hpx hqx hbx
  obtain ⟨np,Ap,cp,ps,p1,p2,p3,p4⟩:=HA.out.1.out
  have HPS:=Lib.hid p4.val_eq
  have hpwd:=p4.wd
  clear p1 p4
  go_wp2_with fail
  go_still_tail 8,(by kernel_rfl)
  change wpList _ _ _ _ _ w8.drew
  go_wp2_with fail
  have hzx:Slot w8 g 2:=hz.below (by rw [hPe]; exact HBX.out)
  refine (zaM g 0 (!na == nb) Ap cp ps _ (hzx.lo.below (zae _)) (p3.below (zae _)) hpwd).mono ?_
  rintro e w9 ⟨rfl,hz9,hu9⟩
  rw [HPS.out] at hz9
  have hq9:=(HA.out.2.below (zae _)).upd hu9 (Or.inl (by omega))
  obtain ⟨nq,Aq,cq,qs,q1,q2,q3,q4⟩:=hq9.out
  have hzs:=(hzx.below (zae _)).upd hu9
  have hpt:=put_at hzs q3 rfl q4
  obtain ⟨⟨v0,hc0⟩,v1,hc1'⟩:=hzs.cells
  have hc1:w9.cell? ⟨g,3,none⟩=some v1:=hc1'
  have hf0:=hzs.frozen 2
  have hf1:=hzs.frozen 3
  have HPT:=Lib.hid hpt
  have HZ9:=Lib.hid hz9
  have HU9:=Lib.hid (hu9.lift (zae _))
  clear hpt q4 hq9 hz9 hu9 p2 p3 HPS hzx hzs hc1'
  go_wp2
  go_ret
  refine ⟨rfl,⟨?_,_,HPT.out.1,Or.inl (by rw [HP.out.2])⟩,?_⟩
  ·have h:=HZ9.out.upd HPT.out.2 (Or.inr (Or.inl (by omega)))
   have es:(!na == nb)=(decide (x<0) != decide (y<0)):=by
    have e1:na=decide (x<0):=by have:=HNA.out; cases na<;>simp at this ⊢<;>omega
    have e2:nb=decide (y<0):=by have:=HNB.out; cases nb<;>simp at this ⊢<;>omega
    rw [e1,e2]; rfl
   rw [HP.out.1,←es]
   exact h
  ·have hB:Below w.heap.size w w8:=by rw [hPe]; exact HBX.out
   exact ((HU9.out.mono (Nat.le_refl _) (by omega)).trans (HPT.out.2.mono (by omega) (by omega))).lift hB
 ·have hg1:Int.gcd x y=1:=by omega
  have hp0:=HP.out
  rw [hg1,Nat.div_one,Nat.div_one] at hp0
  have HPX:=Lib.hid hp0
  clear hp0
  have hpx:=hp6
  have hqx:=hq6
  have hbx:=hB6
  rw [hg1,show ((1:Nat):Int)-1=0 by omega,Int.sign_zero]
  clear hg1
  clear hp6 hq6 hB6 hg6
  have HA:=Lib.hid (And.intro hpx hqx)
  have HBX:=Lib.hid hbx
  clear hpx hqx hbx
  obtain ⟨np,Ap,cp,ps,p1,p2,p3,p4⟩:=HA.out.1.out
  have HPS:=Lib.hid p4.val_eq
  have hpwd:=p4.wd
  clear p1 p4
  go_wp2_with fail
  go_still_tail 8,(by kernel_rfl)
  change wpList _ _ _ _ _ w6.drew
  go_wp2_with fail
  have hzx:Slot w6 g 2:=hz.below (by rw [hPe]; exact HBX.out)
  refine (zaM g 0 (!na == nb) Ap cp ps _ (hzx.lo.below (zae _)) (p3.below (zae _)) hpwd).mono ?_
  rintro e w9 ⟨rfl,hz9,hu9⟩
  rw [HPS.out] at hz9
  have hq9:=(HA.out.2.below (zae _)).upd hu9 (Or.inl (by omega))
  obtain ⟨nq,Aq,cq,qs,q1,q2,q3,q4⟩:=hq9.out
  have hzs:=(hzx.below (zae _)).upd hu9
  have hpt:=put_at hzs q3 rfl q4
  obtain ⟨⟨v0,hc0⟩,v1,hc1'⟩:=hzs.cells
  have hc1:w9.cell? ⟨g,3,none⟩=some v1:=hc1'
  have hf0:=hzs.frozen 2
  have hf1:=hzs.frozen 3
  have HPT:=Lib.hid hpt
  have HZ9:=Lib.hid hz9
  have HU9:=Lib.hid (hu9.lift (zae _))
  clear hpt q4 hq9 hz9 hu9 p2 p3 HPS hzx hzs hc1'
  go_wp2
  go_ret
  refine ⟨rfl,⟨?_,_,HPT.out.1,Or.inl (by rw [HPX.out.2])⟩,?_⟩
  ·have h:=HZ9.out.upd HPT.out.2 (Or.inr (Or.inl (by omega)))
   have es:(!na == nb)=(decide (x<0) != decide (y<0)):=by
    have e1:na=decide (x<0):=by have:=HNA.out; cases na<;>simp at this ⊢<;>omega
    have e2:nb=decide (y<0):=by have:=HNB.out; cases nb<;>simp at this ⊢<;>omega
    rw [e1,e2]; rfl
   rw [HPX.out.1,←es]
   exact h
  ·have hB:Below w.heap.size w w6:=by rw [hPe]; exact HBX.out
   exact ((HU9.out.mono (Nat.le_refl _) (by omega)).trans (HPT.out.2.mono (by omega) (by omega))).lift hB
end Go.Proofs.P9
end
section
set_option linter.unusedVariables false
namespace Go.Proofs.P9
open Go.RowKit Go.Proofs.W9.Wa
theorem bd64 {n:Int} (h0 : -9223372036854775808≤n) (h1:n<9223372036854775808):Bd 64 n:=by
 unfold Bd; have:(2:Nat)^64=18446744073709551616:=by decide
 omega
theorem slot1 (w:World):Slot ((w.alloc (.cells #[.bool false,.slice none 0 0] 105)).alloc (.cells #[.bool false,.slice none 0 0] 105)) (w.heap.size+1) 0:=by
 have h:=(IntAt.new (w.alloc (.cells #[.bool false,.slice none 0 0] 105)) 105 (by decide)).slot
 rwa [World.size_alloc] at h
theorem slot2 (w:World):Slot (((w.alloc (.cells #[.bool false,.slice none 0 0] 105)).alloc (.cells #[.bool false,.slice none 0 0] 105)).alloc (.cells #[.bool false,.slice none 0 0] 105)) (w.heap.size+1+1) 0:=by
 have h:=(IntAt.new ((w.alloc (.cells #[.bool false,.slice none 0 0] 105)).alloc (.cells #[.bool false,.slice none 0 0] 105)) 105 (by decide)).slot
 rwa [World.size_alloc,World.size_alloc] at h
theorem za3 (n:Int) (w:World) (h0 : -9223372036854775808≤n) (h1:n<9223372036854775808) :
  Calls Tryz.prog 112 #[.int .i64 n] w fun e w'=>∃ D,e = .returned (.pointer (some ⟨D,0,none⟩))∧w.heap.size≤D∧IntAt w' D 0 n∧Below w.heap.size w w':=
 (zcl n w h0 h1).mono fun e w' ⟨he,hi,hb⟩=>⟨_,he,Nat.le_refl _,hi,hb⟩
theorem zda (g:Nat) (x:Rat) (w:World) (hx:RatAt w g x) {n:Nat} (hs:Bdr n x) (hn:n≤big) :
  Calls Tryz.prog 155 #[.pointer (some ⟨g,0,none⟩)] w fun e w'=>∃ D,e = .returned (.pointer (some ⟨D,0,none⟩))∧w.heap.size≤D∧IntAt w' D 0 x.num∧Below w.heap.size w w':=
 (num_calls g x w hx hs hn).mono fun e w' ⟨he,hi,hb⟩=>⟨_,he,Nat.le_refl _,hi,hb⟩
theorem za6 (g:Nat) (x:Rat) (w:World) (hx:RatAt w g x) {n:Nat} (hs:Bdr n x) (hn:n≤big) :
  Calls Tryz.prog 157 #[.pointer (some ⟨g,0,none⟩)] w fun e w'=>∃ D,e = .returned (.pointer (some ⟨D,0,none⟩))∧w.heap.size≤D∧IntAt w' D 0 x.den∧Below w.heap.size w w':=
 (denom_calls g x w hx hs hn).mono fun e w' ⟨he,hi,hb⟩=>⟨_,he,Nat.le_refl _,hi,hb⟩
theorem newRat_calls (a b:Int) (w:World) (h0 : -9223372036854775808≤a) (h1:a<9223372036854775808) (k0 : -9223372036854775808≤b) (k1:b<9223372036854775808) (hb:b≠0) :
  Calls Tryz.prog 198 #[.int .i64 a,.int .i64 b] w fun e w'=>∃ D,e = .returned (.pointer (some ⟨D,0,none⟩))∧w.heap.size≤D∧RatAt w' D (Rat.divInt a b)∧Below w.heap.size w w':=by
 have hu105:=Tryz.underlying112
 have hnew:=RatAt.new w 112 (by decide)
 have hba:=zaa (Below.refl w.heap.size w) (.cells #[.bool false,.slice none 0 0,.bool false,.slice none 0 0] 112)
 have HA:=Lib.hid (bd64 h0 h1)
 have HB:=Lib.hid (bd64 k0 k1)
 go_enter Tryz.func198,Tryz.ntmps198
 go_wp2_with fail
 refine (za3 a _ h0 h1).mono ?_
 rintro e w1 ⟨D1,rfl,hD1,hx1,hb1⟩
 go_wp2_with fail
 refine (za3 b _ k0 k1).mono ?_
 rintro e w2 ⟨D2,rfl,hD2,hx2,hb2⟩
 have hx12:=hx1.below hb2
 have hb12:=bthen hba (bthen hb1 hb2)
 have hzz:=hnew.slot.below (bthen hb1 hb2)
 clear h0 h1 k0 k1
 go_wp2_with fail
 refine (zaY w.heap.size D1 0 D2 0 a b _ hzz hx12 hx2 hb HA.out HB.out (by unfold big; omega)).mono ?_
 rintro e w3 ⟨rfl,hz,hu⟩
 go_wp2
 go_ret
 exact ⟨_,rfl,Nat.le_refl _,hz,hu.new hb12 (Nat.le_refl _)⟩
theorem zcf (g:Nat) (x:Rat) (w:World) (hx:RatAt w g x) :
  Calls Tryz.prog 126 #[.pointer (some ⟨g,0,none⟩)] w fun e w'=>e = .returned (.int .i64 x.num.sign)∧w=w':=by
 have hu:=Tryz.underlying112
 go_enter Tryz.func126,Tryz.ntmps126
 go_wp2_with fail
 refine (zaP g 0 x.num _ hx.num).mono ?_
 rintro e w1 ⟨rfl,rfl⟩
 go_wp2
 go_ret
 exact ⟨rfl,rfl⟩
theorem inv_calls (g g1:Nat) (x:Rat) (w:World) (hz:Slot w g 2) (hx:RatAt w g1 x) (hx0:x≠0) {n:Nat} (hs:Bdr n x) (hn:n≤big) :
  Calls Tryz.prog 127 #[.pointer (some ⟨g,0,none⟩),.pointer (some ⟨g1,0,none⟩)] w fun e w'=>e = .returned (.pointer (some ⟨g,0,none⟩))∧RatAt w' g x⁻¹∧Upd w w' g 0 4:=by
 have hu:=Tryz.underlying112
 rw [zcE]
 go_enter Tryz.func127,Tryz.ntmps127
 go_wp2_with fail
 refine (denom_calls g1 x _ hx hs hn).mono ?_
 rintro e w1 ⟨rfl,hd1,hb1⟩
 have hx1:=hx.below hb1
 have hlt:=hd1.lt
 go_wp2_with fail
 refine (num_calls g1 x _ hx1 hs hn).mono ?_
 rintro e w2 ⟨rfl,hd2,hb2⟩
 have hd12:=hd1.below hb2
 have hb:=bthen hb1 hb2
 go_wp2_with fail
 refine (zaY g _ 0 _ 0 (x.den:Int) x.num _ (hz.below hb) hd12 hd2 (num_ne hx0) hs.2 hs.1 hn).mono ?_
 rintro e w3 ⟨rfl,hz3,hu3⟩
 go_wp2
 go_ret
 exact ⟨rfl,hz3,hu3.lift hb⟩
theorem zbs (g g1 g2:Nat) (x y:Rat) (w:World) (hz:Slot w g 2) (hx:RatAt w g1 x) (hy:RatAt w g2 y) {n m:Nat} (hs:Bdr n x) (ht:Bdr m y) (hn:n+m≤big) :
  Calls Tryz.prog 118 #[.pointer (some ⟨g,0,none⟩),.pointer (some ⟨g1,0,none⟩),.pointer (some ⟨g2,0,none⟩)] w fun e w'=>e = .returned (.pointer (some ⟨g,0,none⟩))∧RatAt w' g (x*y)∧Upd w w' g 0 4:=by
 have hu:=Tryz.underlying112
 have hu105:=Tryz.underlying105
 rw [zcZ]
 have hxl:=hx.lt
 have hyl:=hy.lt
 have hsn:n≤n+m:=by omega
 have htn:m≤n+m:=by omega
 have hN0:=(IntAt.new w 105 (by decide)).slot
 have hN1:Slot ((w.alloc (.cells #[.bool false,.slice none 0 0] 105)).alloc (.cells #[.bool false,.slice none 0 0] 105)) (w.heap.size+1) 0:=by
  have h:=(IntAt.new (w.alloc (.cells #[.bool false,.slice none 0 0] 105)) 105 (by decide)).slot
  rwa [World.size_alloc] at h
 have hN2:=hN0.below (zaa (Below.refl _ _) (.cells #[.bool false,.slice none 0 0] 105))
 go_enter Tryz.func118,Tryz.ntmps118
 go_wp2_with fail
 go_region_held3 (fun _=>True) (first|go_keep|trivial)
  ((first
   | (go_simp; go_at_call 200; (with_reducible change Calls _ _ #[.pointer (some ⟨_,0,none⟩),.pointer (some ⟨g1,0,none⟩),.pointer (some ⟨g2,0,none⟩)] _ _); refine (zbj _ 0 g1 0 g2 0 x.num y.num _ (by first|exact hN0.below (by repeat (with_reducible first|exact Below.refl _ _|apply zan|apply zab|apply zaa))|exact hN1.below (by repeat (with_reducible first|exact Below.refl _ _|apply zan|apply zab|apply zaa))) (hx.num.below (by repeat (with_reducible first|exact Below.refl _ _|apply zan|apply zab|apply zaa))) (hy.num.below (by repeat (with_reducible first|exact Below.refl _ _|apply zan|apply zab|apply zaa))) (hs.1.mono hsn) (ht.1.mono htn) hn).mono ?_; rintro e w1 ⟨rfl,hp1,hu1⟩; have hb1:Below w.heap.size w w1:=hu1.new (by repeat (with_reducible first|exact Below.refl _ _|apply zan|apply zab|apply zaa)) (by first|exact Nat.le_refl _|exact Nat.le_succ _); have hpl:=hp1.lt; have hsw:=hb1.size; (first|(have hq1:Slot w1 (w.heap.size+1) 0:=(by refine Slot.upd ?_ hu1; refine hN1.below ?_; (with_reducible first|exact zae _|exact Below.refl _ _)))|skip); (first|(have hq2:Slot w1 w.heap.size 0:=(by refine Slot.upd ?_ hu1; refine hN2.below ?_; (with_reducible first|exact zae _|exact Below.refl _ _)))|skip))
   | (go_simp; go_at_call 157; (with_reducible change Calls _ _ #[.pointer (some ⟨g1,0,none⟩)] _ _); refine (za6 g1 x _ (hx.below (by repeat (with_reducible first|exact Below.refl _ _|apply zan|apply zab|apply zaa|refine bthen ?_ hb1))) hs (by omega)).mono ?_; rintro e w2 ⟨D2,rfl,hD2,hd2,hb2⟩; have hD2':w.heap.size<D2:=(by (try simp only [World.size_alloc,World.size_drew] at hD2); omega); have hs12:w1.heap.size≤w2.heap.size:=(by have h:=hb2.size; (try simp only [World.size_alloc,World.size_drew] at h); omega))
   | (go_simp; go_at_call 157; (with_reducible change Calls _ _ #[.pointer (some ⟨g2,0,none⟩)] _ _); refine (za6 g2 y _ (hy.below (by repeat (with_reducible first|exact Below.refl _ _|apply zan|apply zab|apply zaa|refine bthen ?_ hb2|refine bthen ?_ hb1))) ht (by omega)).mono ?_; rintro e w3 ⟨D3,rfl,hD3,hd3,hb3⟩; have hs23:w2.heap.size≤w3.heap.size:=(by have h:=hb3.size; (try simp only [World.size_alloc,World.size_drew] at h); omega))
   | (go_simp; go_at_call 200; (with_reducible change Calls _ _ #[.pointer (some ⟨_,0,none⟩),.pointer (some ⟨D2,0,none⟩),.pointer (some ⟨D3,0,none⟩)] _ _); refine (zbj _ 0 D2 0 D3 0 (x.den:Int) (y.den:Int) _ (by first|exact hq1.below (by repeat (with_reducible first|exact Below.refl _ _|apply zan|apply zab|apply zaa|refine bthen ?_ hb3|refine bthen ?_ hb2))|exact hq2.below (by repeat (with_reducible first|exact Below.refl _ _|apply zan|apply zab|apply zaa|refine bthen ?_ hb3|refine bthen ?_ hb2))|exact (IntAt.new w1 105 (by decide)).slot.below (by repeat (with_reducible first|exact Below.refl _ _|apply zan|apply zab|apply zaa|refine bthen ?_ hb3|refine bthen ?_ hb2))|exact (IntAt.new w2 105 (by decide)).slot.below (by repeat (with_reducible first|exact Below.refl _ _|apply zan|apply zab|apply zaa|refine bthen ?_ hb3|refine bthen ?_ hb2))|exact (IntAt.new w3 105 (by decide)).slot.below (by repeat (with_reducible first|exact Below.refl _ _|apply zan|apply zab|apply zaa|refine bthen ?_ hb3|refine bthen ?_ hb2))) (hd2.below (by repeat (with_reducible first|exact Below.refl _ _|apply zan|apply zab|apply zaa|refine bthen ?_ hb3))) (hd3.below (by repeat (with_reducible first|exact Below.refl _ _|apply zan|apply zab|apply zaa))) (hs.2.mono hsn) (ht.2.mono htn) hn).mono ?_; rintro e w4 ⟨rfl,hq4,hu4⟩)
   | (go_simp; go_at_call 109; (with_reducible change Calls _ _ #[.pointer (some ⟨g,0,none⟩),.pointer (some ⟨_,0,none⟩),.pointer (some ⟨_,0,none⟩)] _ _); have hB4:Below w.heap.size w w4:=hu4.new (by repeat (with_reducible first|exact Below.refl _ _|apply zan|apply zab|apply zaa|refine bthen ?_ hb3|refine bthen ?_ hb2|refine bthen ?_ hb1)) (by omega); have hp4:=(hp1.below (by repeat (with_reducible first|exact Below.refl _ _|apply zan|apply zab|apply zaa|refine bthen ?_ hb3|refine bthen ?_ hb2))).upd hu4 (Or.inl (by omega)); refine (zaY g _ 0 _ 0 (x.num*y.num) ((x.den:Int)*y.den) _ (hz.below hB4) hp4 hq4 (zc1 x y) (hs.1.mul ht.1) (hs.2.mul ht.2) hn).mono ?_; rintro e w5 ⟨rfl,hz5,hu5⟩)
   ))
 all_goals
  go_wp2
  go_ret
  exact ⟨rfl,hz5,hu5.lift hB4⟩
theorem rquo_calls (g g1 g2:Nat) (x y:Rat) (w:World) (hz:Slot w g 2) (hx:RatAt w g1 x) (hy:RatAt w g2 y) (hy0:y≠0) {n m:Nat} (hs:Bdr n x) (ht:Bdr m y) (hn:n+m≤big) :
  Calls Tryz.prog 152 #[.pointer (some ⟨g,0,none⟩),.pointer (some ⟨g1,0,none⟩),.pointer (some ⟨g2,0,none⟩)] w fun e w'=>e = .returned (.pointer (some ⟨g,0,none⟩))∧RatAt w' g (x/y)∧Upd w w' g 0 4:=by
 have hu:=Tryz.underlying112
 have hu105:=Tryz.underlying105
 rw [div_divInt]
 have hxl:=hx.lt
 have hyl:=hy.lt
 have hsn:n≤n+m:=by omega
 have htn:m≤n+m:=by omega
 have hnz:(x.den:Int)*y.num≠0:=Int.mul_ne_zero (den_ne x) (num_ne hy0)
 go_enter Tryz.func152,Tryz.ntmps152
 go_wp2_with fail
 go_region_held3 (fun _=>True) (first|go_keep|trivial)
  ((first
   | (go_simp; go_at_call 157; (with_reducible change Calls _ _ #[.pointer (some ⟨g2,0,none⟩)] _ _); refine (za6 g2 y _ (by repeat (with_reducible first|exact hy|refine RatAt.below ?_ (zae _)|refine RatAt.below ?_ (zaa (Below.refl _ _) _))) ht (by omega)).mono ?_; rintro e w1 ⟨D1,rfl,hD1,hd1,hb1⟩; have hl1:=hd1.lt; have hs1:=hb1.size; (try simp only [World.size_alloc,World.size_drew] at hs1); (try simp only [World.size_alloc,World.size_drew] at hD1))
   | (go_simp; go_at_call 200; (with_reducible change Calls _ _ #[.pointer (some ⟨_,0,none⟩),.pointer (some ⟨g1,0,none⟩),.pointer (some ⟨D1,0,none⟩)] _ _); refine (zbj _ 0 g1 0 D1 0 x.num (y.den:Int) _ (by repeat (with_reducible first|exact (IntAt.new _ 105 (by decide)).slot|exact slot1 _|exact slot2 _|refine Slot.below ?_ (zae _)|refine Slot.below ?_ (zaa (Below.refl _ _) _)|refine Slot.below ?_ hb1)) ((by repeat (with_reducible first|exact hx|refine RatAt.below ?_ (zae _)|refine RatAt.below ?_ (zaa (Below.refl _ _) _)|refine RatAt.below ?_ hb1)):RatAt _ g1 x).num (by repeat (with_reducible first|exact hd1|refine IntAt.below ?_ (zae _)|refine IntAt.below ?_ (zaa (Below.refl _ _) _)|refine IntAt.below ?_ hb1)) (hs.1.mono hsn) (ht.2.mono htn) hn).mono ?_; rintro e w2 ⟨rfl,hp2,hu2⟩; have hl2:=hp2.lt; have hs2:=hu2.size; (try simp only [World.size_alloc,World.size_drew] at hs2))
   | (go_simp; go_at_call 157; (with_reducible change Calls _ _ #[.pointer (some ⟨g1,0,none⟩)] _ _); refine (za6 g1 x _ (by repeat (with_reducible first|exact hx|refine RatAt.below ?_ (zae _)|refine RatAt.below ?_ (zaa (Below.refl _ _) _)|refine RatAt.upd ?_ hu2 (by omega)|refine RatAt.below ?_ hb1)) hs (by omega)).mono ?_; rintro e w3 ⟨D3,rfl,hD3,hd3,hb3⟩; have hl3:=hd3.lt; have hs3:=hb3.size; (try simp only [World.size_alloc,World.size_drew] at hs3); (try simp only [World.size_alloc,World.size_drew] at hD3))
   | (go_simp; go_at_call 200; (with_reducible change Calls _ _ #[.pointer (some ⟨_,0,none⟩),.pointer (some ⟨D3,0,none⟩),.pointer (some ⟨g2,0,none⟩)] _ _); refine (zbj _ 0 D3 0 g2 0 (x.den:Int) y.num _ (by repeat (with_reducible first|exact (IntAt.new _ 105 (by decide)).slot|exact slot1 _|exact slot2 _|refine Slot.below ?_ (zae _)|refine Slot.below ?_ (zaa (Below.refl _ _) _)|refine Slot.upd ?_ hu2|refine Slot.below ?_ hb3|refine Slot.below ?_ hb1)) (by repeat (with_reducible first|exact hd3|refine IntAt.below ?_ (zae _)|refine IntAt.below ?_ (zaa (Below.refl _ _) _)|refine IntAt.upd ?_ hu2 (Or.inl (by omega))|refine IntAt.below ?_ hb3)) ((by repeat (with_reducible first|exact hy|refine RatAt.below ?_ (zae _)|refine RatAt.below ?_ (zaa (Below.refl _ _) _)|refine RatAt.upd ?_ hu2 (by omega)|refine RatAt.below ?_ hb3|refine RatAt.below ?_ hb1)):RatAt _ g2 y).num (hs.2.mono hsn) (ht.1.mono htn) hn).mono ?_; rintro e w4 ⟨rfl,hq4,hu4⟩; have hl4:=hq4.lt; have hs4:=hu4.size; (try simp only [World.size_alloc,World.size_drew] at hs4))
   | (go_simp; go_at_call 109; (with_reducible change Calls _ _ #[.pointer (some ⟨g,0,none⟩),.pointer (some ⟨_,0,none⟩),.pointer (some ⟨_,0,none⟩)] _ _); refine (zaY g _ 0 _ 0 (x.num*y.den) ((x.den:Int)*y.num) _ (by repeat (with_reducible first|exact hz|refine Slot.below ?_ (zae _)|refine Slot.below ?_ (zaa (Below.refl _ _) _)|refine Slot.upd ?_ hu4|refine Slot.upd ?_ hu2|refine Slot.below ?_ hb3|refine Slot.below ?_ hb1)) (by repeat (with_reducible first|exact hp2|refine IntAt.below ?_ (zae _)|refine IntAt.below ?_ (zaa (Below.refl _ _) _)|refine IntAt.upd ?_ hu4 (Or.inl (by omega))|refine IntAt.below ?_ hb3)) hq4 hnz (hs.1.mul ht.2) (hs.2.mul ht.1) hn).mono ?_; rintro e w5 ⟨rfl,hz5,hu5⟩)
   ))
 all_goals
  have hB4:Below w.heap.size w w4:=(by repeat (with_reducible first|exact Below.refl _ _|apply zan|apply zab|apply zaa|refine bthen ?_ hb3|refine bthen ?_ hb1|refine Upd.new hu4 ?_ (by omega)|refine Upd.new hu2 ?_ (by omega)))
  go_wp2
  go_ret
  exact ⟨rfl,hz5,hu5.lift hB4⟩
theorem rcmp_calls (g1 g2:Nat) (x y:Rat) (w:World) (hx:RatAt w g1 x) (hy:RatAt w g2 y) {n m:Nat} (hs:Bdr n x) (ht:Bdr m y) (hn:n+m≤big) :
  Calls Tryz.prog 120 #[.pointer (some ⟨g1,0,none⟩),.pointer (some ⟨g2,0,none⟩)] w fun e w'=>e = .returned (.int .i64 (x.num*y.den-y.num*x.den).sign)∧Below w.heap.size w w':=by
 have hu:=Tryz.underlying112
 have hu105:=Tryz.underlying105
 have hxl:=hx.lt
 have hyl:=hy.lt
 have hsn:n≤n+m:=by omega
 have htn:m≤n+m:=by omega
 go_enter Tryz.func120,Tryz.ntmps120
 go_wp2_with fail
 go_region_held3 (fun _=>True) (first|go_keep|trivial)
  ((first
   | (go_simp; go_at_call 157; (with_reducible change Calls _ _ #[.pointer (some ⟨g2,0,none⟩)] _ _); refine (za6 g2 y _ (by repeat (with_reducible first|exact hy|refine RatAt.below ?_ (zae _)|refine RatAt.below ?_ (zaa (Below.refl _ _) _))) ht (by omega)).mono ?_; rintro e w1 ⟨D1,rfl,hD1,hd1,hb1⟩; have hl1:=hd1.lt; have hs1:=hb1.size; (try simp only [World.size_alloc,World.size_drew] at hs1); (try simp only [World.size_alloc,World.size_drew] at hD1))
   | (go_simp; go_at_call 200; (with_reducible change Calls _ _ #[.pointer (some ⟨_,0,none⟩),.pointer (some ⟨g1,0,none⟩),.pointer (some ⟨D1,0,none⟩)] _ _); refine (zbj _ 0 g1 0 D1 0 x.num (y.den:Int) _ (by repeat (with_reducible first|exact (IntAt.new _ 105 (by decide)).slot|exact slot1 _|exact slot2 _|refine Slot.below ?_ (zae _)|refine Slot.below ?_ (zaa (Below.refl _ _) _)|refine Slot.below ?_ hb1)) ((by repeat (with_reducible first|exact hx|refine RatAt.below ?_ (zae _)|refine RatAt.below ?_ (zaa (Below.refl _ _) _)|refine RatAt.below ?_ hb1)):RatAt _ g1 x).num (by repeat (with_reducible first|exact hd1|refine IntAt.below ?_ (zae _)|refine IntAt.below ?_ (zaa (Below.refl _ _) _)|refine IntAt.below ?_ hb1)) (hs.1.mono hsn) (ht.2.mono htn) hn).mono ?_; rintro e w2 ⟨rfl,hp2,hu2⟩; have hl2:=hp2.lt; have hs2:=hu2.size; (try simp only [World.size_alloc,World.size_drew] at hs2))
   | (go_simp; go_at_call 157; (with_reducible change Calls _ _ #[.pointer (some ⟨g1,0,none⟩)] _ _); refine (za6 g1 x _ (by repeat (with_reducible first|exact hx|refine RatAt.below ?_ (zae _)|refine RatAt.below ?_ (zaa (Below.refl _ _) _)|refine RatAt.upd ?_ hu2 (by omega)|refine RatAt.below ?_ hb1)) hs (by omega)).mono ?_; rintro e w3 ⟨D3,rfl,hD3,hd3,hb3⟩; have hl3:=hd3.lt; have hs3:=hb3.size; (try simp only [World.size_alloc,World.size_drew] at hs3); (try simp only [World.size_alloc,World.size_drew] at hD3))
   | (go_simp; go_at_call 200; (with_reducible change Calls _ _ #[.pointer (some ⟨_,0,none⟩),.pointer (some ⟨g2,0,none⟩),.pointer (some ⟨D3,0,none⟩)] _ _); refine (zbj _ 0 g2 0 D3 0 y.num (x.den:Int) _ (by repeat (with_reducible first|exact (IntAt.new _ 105 (by decide)).slot|exact slot1 _|exact slot2 _|refine Slot.below ?_ (zae _)|refine Slot.below ?_ (zaa (Below.refl _ _) _)|refine Slot.upd ?_ hu2|refine Slot.below ?_ hb3|refine Slot.below ?_ hb1)) ((by repeat (with_reducible first|exact hy|refine RatAt.below ?_ (zae _)|refine RatAt.below ?_ (zaa (Below.refl _ _) _)|refine RatAt.upd ?_ hu2 (by omega)|refine RatAt.below ?_ hb3|refine RatAt.below ?_ hb1)):RatAt _ g2 y).num (by repeat (with_reducible first|exact hd3|refine IntAt.below ?_ (zae _)|refine IntAt.below ?_ (zaa (Below.refl _ _) _)|refine IntAt.upd ?_ hu2 (Or.inl (by omega))|refine IntAt.below ?_ hb3)) (ht.1.mono htn) (hs.2.mono hsn) hn).mono ?_; rintro e w4 ⟨rfl,hq4,hu4⟩; have hl4:=hq4.lt; have hs4:=hu4.size; (try simp only [World.size_alloc,World.size_drew] at hs4))
   | (go_simp; go_at_call 185; (with_reducible change Calls _ _ #[.pointer (some ⟨_,0,none⟩),.pointer (some ⟨_,0,none⟩)] _ _); refine (zdB _ 0 _ 0 (x.num*y.den) (y.num*x.den) _ (by repeat (with_reducible first|exact hp2|refine IntAt.below ?_ (zae _)|refine IntAt.below ?_ (zaa (Below.refl _ _) _)|refine IntAt.upd ?_ hu4 (Or.inl (by omega))|refine IntAt.below ?_ hb3)) hq4).mono ?_; rintro e w5 ⟨rfl,hb5⟩)
   ))
 all_goals
  have hB4:Below w.heap.size w w4:=(by repeat (with_reducible first|exact Below.refl _ _|apply zan|apply zab|apply zaa|refine bthen ?_ hb3|refine bthen ?_ hb1|refine Upd.new hu4 ?_ (by omega)|refine Upd.new hu2 ?_ (by omega)))
  go_wp2
  go_ret
  exact ⟨rfl,bthen hB4 hb5⟩
theorem radd_calls (g g1 g2:Nat) (x y:Rat) (w:World) (hz:Slot w g 2) (hx:RatAt w g1 x) (hy:RatAt w g2 y) {n m:Nat} (hs:Bdr n x) (ht:Bdr m y) (hn:n+m+1≤big) :
  Calls Tryz.prog 115 #[.pointer (some ⟨g,0,none⟩),.pointer (some ⟨g1,0,none⟩),.pointer (some ⟨g2,0,none⟩)] w fun e w'=>e = .returned (.pointer (some ⟨g,0,none⟩))∧RatAt w' g (x+y)∧Upd w w' g 0 4:=by
 have hu:=Tryz.underlying112
 have hu105:=Tryz.underlying105
 rw [add_divInt]
 have hxl:=hx.lt
 have hyl:=hy.lt
 have hsn:n≤n+m:=by omega
 have htn:m≤n+m:=by omega
 have hnm:n+m≤big:=by omega
 go_enter Tryz.func115,Tryz.ntmps115
 go_wp2_with fail
 refine (za6 g1 x _ hx hs (by omega)).mono ?_
 rintro e w1 ⟨P,rfl,hP,hp1,hb1⟩
 have hs1:=hb1.size
 have hlp:=hp1.lt
 go_wp2_with fail
 refine (za6 g2 y _ (hy.below hb1) ht (by omega)).mono ?_
 rintro e w2 ⟨Q,rfl,hQ,hq2,hb2⟩
 have hs2:=hb2.size
 have hlq:=hq2.lt
 go_wp2_with fail
 go_region_held3 (fun _=>True) (first|go_keep|trivial)
  ((first
   | (go_simp; go_at_call 200; (with_reducible change Calls _ _ #[.pointer (some ⟨_,0,none⟩),.pointer (some ⟨g1,0,none⟩),.pointer (some ⟨Q,0,none⟩)] _ _); refine (zbj _ 0 g1 0 Q 0 x.num (y.den:Int) _ (by repeat (with_reducible first|exact (IntAt.new _ 105 (by decide)).slot|exact slot1 _|exact slot2 _|refine Slot.below ?_ (zae _)|refine Slot.below ?_ (zaa (Below.refl _ _) _)|refine Slot.below ?_ hb1|refine Slot.below ?_ hb2)) ((by repeat (with_reducible first|exact hx|refine RatAt.below ?_ (zae _)|refine RatAt.below ?_ (zaa (Below.refl _ _) _)|refine RatAt.below ?_ hb1|refine RatAt.below ?_ hb2)):RatAt _ g1 x).num (by repeat (with_reducible first|exact hq2|refine IntAt.below ?_ (zae _)|refine IntAt.below ?_ (zaa (Below.refl _ _) _))) (hs.1.mono hsn) (ht.2.mono htn) hnm).mono ?_; rintro e w3 ⟨rfl,hm3,hu3⟩; have hl3:=hm3.lt; have hs3:=hu3.size; (try simp only [World.size_alloc,World.size_drew] at hs3))
   | (go_simp; go_at_call 200; (with_reducible change Calls _ _ #[.pointer (some ⟨_,0,none⟩),.pointer (some ⟨g2,0,none⟩),.pointer (some ⟨P,0,none⟩)] _ _); refine (zbj _ 0 g2 0 P 0 y.num (x.den:Int) _ (by repeat (with_reducible first|exact (IntAt.new _ 105 (by decide)).slot|exact slot1 _|exact slot2 _|refine Slot.below ?_ (zae _)|refine Slot.below ?_ (zaa (Below.refl _ _) _)|refine Slot.upd ?_ hu3|refine Slot.below ?_ hb1|refine Slot.below ?_ hb2)) ((by repeat (with_reducible first|exact hy|refine RatAt.below ?_ (zae _)|refine RatAt.below ?_ (zaa (Below.refl _ _) _)|refine RatAt.upd ?_ hu3 (by omega)|refine RatAt.below ?_ hb1|refine RatAt.below ?_ hb2)):RatAt _ g2 y).num (by repeat (with_reducible first|exact hp1|refine IntAt.below ?_ (zae _)|refine IntAt.below ?_ (zaa (Below.refl _ _) _)|refine IntAt.upd ?_ hu3 (Or.inl (by omega))|refine IntAt.below ?_ hb2)) (ht.1.mono htn) (hs.2.mono hsn) hnm).mono ?_; rintro e w4 ⟨rfl,hm4,hu4⟩; have hl4:=hm4.lt; have hs4:=hu4.size; (try simp only [World.size_alloc,World.size_drew] at hs4))
   | (go_simp; go_at_call 199; (with_reducible change Calls _ _ #[.pointer (some ⟨_,0,none⟩),.pointer (some ⟨_,0,none⟩),.pointer (some ⟨_,0,none⟩)] _ _); refine (add_calls _ 0 _ 0 _ 0 (x.num*y.den) (y.num*x.den) _ (by repeat (with_reducible first|exact (IntAt.new _ 105 (by decide)).slot|exact slot1 _|exact slot2 _|refine Slot.below ?_ (zae _)|refine Slot.below ?_ (zaa (Below.refl _ _) _)|refine Slot.upd ?_ hu4|refine Slot.upd ?_ hu3|refine Slot.below ?_ hb1|refine Slot.below ?_ hb2)) (by repeat (with_reducible first|exact hm3|refine IntAt.below ?_ (zae _)|refine IntAt.below ?_ (zaa (Below.refl _ _) _)|refine IntAt.upd ?_ hu4 (Or.inl (by omega)))) (by repeat (with_reducible first|exact hm4|refine IntAt.below ?_ (zae _)|refine IntAt.below ?_ (zaa (Below.refl _ _) _))) (hs.1.mul ht.2) (by have h:=ht.1.mul hs.2; rwa [Nat.add_comm m n] at h) hnm (Or.inl (by omega)) (Or.inl (by omega))).mono ?_; rintro e w5 ⟨rfl,hm5,hu5⟩; have hl5:=hm5.lt; have hs5:=hu5.size; (try simp only [World.size_alloc,World.size_drew] at hs5))
   ))
 all_goals
  have hp5:IntAt w5 P 0 (x.den:Int):=(by repeat (with_reducible first|exact hp1|refine IntAt.below ?_ (zae _)|refine IntAt.below ?_ (zaa (Below.refl _ _) _)|refine IntAt.upd ?_ hu5 (Or.inl (by omega))|refine IntAt.upd ?_ hu4 (Or.inl (by omega))|refine IntAt.upd ?_ hu3 (Or.inl (by omega))|refine IntAt.below ?_ hb2))
  have hq5:IntAt w5 Q 0 (y.den:Int):=(by repeat (with_reducible first|exact hq2|refine IntAt.below ?_ (zae _)|refine IntAt.below ?_ (zaa (Below.refl _ _) _)|refine IntAt.upd ?_ hu5 (Or.inl (by omega))|refine IntAt.upd ?_ hu4 (Or.inl (by omega))|refine IntAt.upd ?_ hu3 (Or.inl (by omega))))
  have hz5:Slot w5 g 2:=(by repeat (with_reducible first|exact hz|refine Slot.below ?_ (zae _)|refine Slot.below ?_ (zaa (Below.refl _ _) _)|refine Slot.upd ?_ hu5|refine Slot.upd ?_ hu4|refine Slot.upd ?_ hu3|refine Slot.below ?_ hb2|refine Slot.below ?_ hb1))
  have hB5:Below w.heap.size w w5:=(by repeat (with_reducible first|exact Below.refl _ _|apply zan|apply zab|apply zaa|refine bthen ?_ hb2|refine bthen ?_ hb1|refine Upd.new hu5 ?_ (by omega)|refine Upd.new hu4 ?_ (by omega)|refine Upd.new hu3 ?_ (by omega)))
  have hbn:=(hs.1.mul ht.2).add (by have h:=ht.1.mul hs.2; rwa [Nat.add_comm m n] at h)
  have hbd:=(hs.2.mul ht.2).mono (show n+m≤n+m+1 by omega)
  have HBN:=Lib.hid (And.intro hbn hbd)
  have HM5:=Lib.hid hm5
  clear hbn hbd hm3 hu3 hm4 hu4 hu5 hb1 hb2 hp1 hq2 hm5
  go_wp2_with fail
  refine (zbj P 0 P 0 Q 0 (x.den:Int) (y.den:Int) _ hp5.slot hp5 hq5 (hs.2.mono hsn) (ht.2.mono htn) hnm).mono ?_
  rintro e w6 ⟨rfl,hp6,hu6⟩
  have hn6:=HM5.out.upd hu6 (Or.inl (by omega))
  go_wp2_with fail
  refine (zaY g _ 0 P 0 (x.num*y.den+y.num*x.den) ((x.den:Int)*y.den) _ (hz5.upd hu6) hn6 hp6 (zc1 x y) HBN.out.1 HBN.out.2 hn).mono ?_
  rintro e w7 ⟨rfl,hz7,hu7⟩
  have hB6:=hu6.new hB5 (by omega)
  go_wp2
  go_ret
  exact ⟨rfl,hz7,hu7.lift hB6⟩
end Go.Proofs.P9
end
section
set_option linter.unusedVariables false
namespace Go.Proofs.P9
open Go.RowKit Go.Proofs.W9.Wa
theorem put_rat {w:World} {g c c' k k':Nat} {A A':Option Addr} {neg neg':Bool} {ws ws':List Int} {x:Rat} (hz:Slot w g 2) (h1:WAt w A c ws) (e1:ws.length=k) (n1:Norm neg ws x.num) (h2:WAt w A' c' ws') (e2:ws'.length=k') (n2:Norm neg' ws' (x.den:Int)) :
  RatAt ((((w.setCell ⟨g,0,none⟩ (.bool neg)).setCell ⟨g,1,none⟩ (.slice A k c)).setCell ⟨g,2,none⟩ (.bool neg')).setCell ⟨g,3,none⟩ (.slice A' k' c')) g x∧Upd w ((((w.setCell ⟨g,0,none⟩ (.bool neg)).setCell ⟨g,1,none⟩ (.slice A k c)).setCell ⟨g,2,none⟩ (.bool neg')).setCell ⟨g,3,none⟩ (.slice A' k' c')) g 0 4:=by
 obtain ⟨p1,u1⟩:=put_at hz.lo h1 e1 n1
 have hz1:Slot ((w.setCell ⟨g,0,none⟩ (.bool neg)).setCell ⟨g,0+1,none⟩ (.slice A k c)) g 2:=hz.upd u1
 obtain ⟨p2,u2⟩:=put_at hz1 (h2.upd u1) e2 n2
 exact ⟨⟨p1.upd u2 (Or.inr (Or.inl (by omega))),_,p2,Or.inl rfl⟩,(u1.mono (Nat.le_refl _) (by omega)).trans (u2.mono (by omega) (by omega))⟩
theorem cell_set_ne {w:World} {g o b j:Nat} {u v:Value} (h:w.cell? ⟨b,j,none⟩=some v) (hne:b≠g):(w.setCell ⟨g,o,none⟩ u).cell? ⟨b,j,none⟩=some v:=
 (World.cell?_of_block (Below.heap_setCell w ⟨g,o,none⟩ u b hne)).trans h
theorem zcc {w:World} {a:Addr} {v:Value} (h:w.cell? a=some v):w.drew.cell? a=some v:=h
theorem zaZ (g b o:Nat) (x:Int) (w:World) (hz:Slot w g 2) (hx:IntAt w b o x) {n:Nat} (hs:Bd n x) (hn:n≤big) :
  Calls Tryz.prog 125 #[.pointer (some ⟨g,0,none⟩),.pointer (some ⟨b,o,none⟩)] w fun e w'=>e = .returned (.pointer (some ⟨g,0,none⟩))∧RatAt w' g (x:Rat)∧Upd w w' g 0 4:=by
 have hu:=Tryz.underlying112
 have hu105:=Tryz.underlying105
 go_enter Tryz.func125,Tryz.ntmps125
 have hlt:=hx.lt
 have hltg:=hz.lt
 have hnew:=(IntAt.new w 105 (by decide)).slot
 have hPg:w.heap.size≠g:=by omega
 have hba:=zaa (Below.refl w.heap.size w) (.cells #[.bool false,.slice none 0 0] 105)
 go_wp2_with fail
 go_region_with
  ((first
   | (go_simp; go_at_call 202; refine (zcK w.heap.size 0 b o x _ (by repeat (with_reducible first|exact hnew|refine Slot.below ?_ (zae _))) (by repeat (with_reducible first|exact hx|refine IntAt.below ?_ (zae _)|refine IntAt.below ?_ (zaa (Below.refl _ _) _))) (Or.inl (by omega)) hs hn).mono ?_; rintro e w1 ⟨rfl,hp1,hu1⟩; have hb1:Below w.heap.size w w1:=hu1.new (by repeat (with_reducible first|exact Below.refl _ _|apply zan|apply zaa)) (Nat.le_refl _); have hpl:=hp1.lt; obtain ⟨np,Ap,cp,ps,p1,p2,p3,p4⟩:=hp1.out; have p2':w1.cell? ⟨w.heap.size,1,none⟩=some (.slice Ap ps.length cp):=p2; clear p2)
   | (go_simp; go_at_call 112; refine (za3 1 _ (by decide) (by decide)).mono ?_; rintro e w2 ⟨Q,rfl,hQ,hq2,hb2⟩; have hQg:Q≠g:=(by have h:=hb1.size; (try simp only [World.size_drew] at hQ); omega); have hb12:Below w1.heap.size w1 w2:=(by first|exact hb2|exact bthen (zae _) hb2|exact bthen (zae _) (bthen (zae _) hb2)); have r1:=bcell hb12 p1; have r2:=bcell hb12 p2'; have hB2:=bthen hb1 hb12; have hz2:=hz.below hB2; obtain ⟨⟨v0,hc0⟩,v1,hc1⟩:=hz2.lo.cells; obtain ⟨⟨v2,hc2⟩,v3,hc3⟩:=hz2.cells; have hc1':w2.cell? ⟨g,1,none⟩=some v1:=hc1; have hc3':w2.cell? ⟨g,3,none⟩=some v3:=hc3; have hf0:=hz2.frozen 0; have hf1:=hz2.frozen 1; have hf2:=hz2.frozen 2; have hf3:=hz2.frozen 3; clear hc1 hc3; obtain ⟨nq,Aq,cq,qs,q1,q2,q3,q4⟩:=hq2.out; have q2':w2.cell? ⟨Q,1,none⟩=some (.slice Aq qs.length cq):=q2; clear q2)
   ))
 all_goals
  have hpt:=put_rat (x:=(x:Rat)) hz2 (p3.below hb12) rfl (show Norm np ps ((x:Rat).num) from p4) q3 rfl (show Norm nq qs (((x:Rat).den:Nat):Int) from q4)
  have HPT:=Lib.hid hpt
  clear hpt
  go_wp2
  go_ret
  exact ⟨rfl,HPT.out.1,HPT.out.2.lift hB2⟩
theorem rset_calls (g g1:Nat) (x:Rat) (w:World) (hz:Slot w g 2) (hx:RatAt w g1 x) {n:Nat} (hs:Bdr n x) (hn:n≤big) :
  Calls Tryz.prog 139 #[.pointer (some ⟨g,0,none⟩),.pointer (some ⟨g1,0,none⟩)] w fun e w'=>e = .returned (.pointer (some ⟨g,0,none⟩))∧RatAt w' g x∧Upd w w' g 0 4:=by
 have hu:=Tryz.underlying112
 have hu105:=Tryz.underlying105
 have hlt:=hx.lt
 go_enter Tryz.func139,Tryz.ntmps139
 go_wp2_with fail
 refine (zda g1 x _ hx hs hn).mono ?_
 rintro e w1 ⟨P,rfl,hP,hp1,hb1⟩
 have hs1:=hb1.size
 have hlp:=hp1.lt
 go_wp2_with fail
 refine (za6 g1 x _ (hx.below hb1) hs hn).mono ?_
 rintro e w2 ⟨Q,rfl,hQ,hq2,hb2⟩
 have hs2:=hb2.size
 have hlq:=hq2.lt
 have hp2:=hp1.below hb2
 obtain ⟨np,Ap,cp,ps,p1,p2,p3,p4⟩:=hp2.out
 obtain ⟨nq,Aq,cq,qs,q1,q2,q3,q4⟩:=hq2.out
 have hz2:=hz.below (bthen hb1 hb2)
 have hpt:=put_rat hz2 p3 rfl p4 q3 rfl q4
 have HPT:=Lib.hid hpt
 obtain ⟨⟨v0,hc0⟩,v1,hc1⟩:=hz2.lo.cells
 obtain ⟨⟨v2,hc2⟩,v3,hc3⟩:=hz2.cells
 have hc1':w2.cell? ⟨g,1,none⟩=some v1:=hc1
 have hc3':w2.cell? ⟨g,3,none⟩=some v3:=hc3
 have hf0:=hz2.frozen 0
 have hf1:=hz2.frozen 1
 have hf2:=hz2.frozen 2
 have hf3:=hz2.frozen 3
 have HB:=Lib.hid (bthen hb1 hb2)
 clear hpt p3 p4 q3 q4 hc1 hc3 hz2 hp2 hq2 hp1
 have hltg:=hz.lt
 have hPg:P≠g:=by omega
 have hQg:Q≠g:=by omega
 have q1':w2.cell? ⟨Q,1,none⟩=some (.slice Aq qs.length cq):=q2
 have p1':w2.cell? ⟨P,1,none⟩=some (.slice Ap ps.length cp):=p2
 clear q2 p2
 go_wp2_with fail
 go_region_held3 (fun w'=>w'.cell? ⟨P,0,none⟩=some (.bool np)∧w'.cell? ⟨P,1,none⟩=some (.slice Ap ps.length cp)∧w'.cell? ⟨Q,0,none⟩=some (.bool nq)∧w'.cell? ⟨Q,1,none⟩=some (.slice Aq qs.length cq)) (first|exact ⟨p1,p1',q1,q1'⟩|(refine ⟨?_,?_,?_,?_⟩<;>(repeat (with_reducible first|assumption|refine zcc ?_|refine cell_set_ne ?_ hPg|refine cell_set_ne ?_ hQg))))
  ((first
   | fail))
 all_goals
  go_wp2
  go_ret
  exact ⟨rfl,HPT.out.1.below (zae _),(HPT.out.2.trans (Upd.of_below (zae _) _ _ _)).lift HB.out⟩
theorem set_neg {w:World} {g c:Nat} {A:Option Addr} {neg neg':Bool} {ws:List Int} {x y:Rat} (h:RatAt w g x) (h1:w.cell? ⟨g,0,none⟩=some (.bool neg)) (h2:w.cell? ⟨g,0+1,none⟩=some (.slice A ws.length c)) (h3:WAt w A c ws) (hn:Norm neg' ws y.num) (hd:y.den=x.den) :
  RatAt (w.setCell ⟨g,0,none⟩ (.bool neg')) g y∧Upd w (w.setCell ⟨g,0,none⟩ (.bool neg')) g 0 4:=by
 have hs:=h.slot
 obtain ⟨cs,t,hb,hsz,ht⟩:=h.slot.lo
 have u:=Upd.set w hb ht (Nat.le_refl 0) (show 0<1 by decide) (.bool neg')
 have hb2:=zat hb 0 (.bool neg')
 obtain ⟨d,hd1,hd2⟩:=h.den
 refine ⟨⟨⟨h.slot.lo.upd u,neg',A,c,ws,?_,?_,h3.upd u,hn⟩,d,hd1.upd u (Or.inr (Or.inr (by omega))),?_⟩,u.mono (Nat.le_refl _) (by omega)⟩
 ·rw [zaf hb2,Array.getElem?_setIfInBounds_self_of_lt (by omega)]
 ·rw [←h2,zaf hb2,zaf hb,Array.getElem?_setIfInBounds_ne (by omega)]
 ·rw [hd]; exact hd2
theorem zcT (g g1:Nat) (x:Rat) (w:World) (hz:Slot w g 2) (hx:RatAt w g1 x) {n:Nat} (hs:Bdr n x) (hn:n≤big) :
  Calls Tryz.prog 141 #[.pointer (some ⟨g,0,none⟩),.pointer (some ⟨g1,0,none⟩)] w fun e w'=>e = .returned (.pointer (some ⟨g,0,none⟩))∧RatAt w' g (-x)∧Upd w w' g 0 4:=by
 have hu:=Tryz.underlying112
 have hu105:=Tryz.underlying105
 go_enter Tryz.func141,Tryz.ntmps141
 go_wp2_with fail
 refine (rset_calls g g1 x _ hz hx hs hn).mono ?_
 rintro e w1 ⟨rfl,hz1,hu1⟩
 obtain ⟨neg,A,c,ws,h1,h2,h3,h4⟩:=hz1.num.out
 have hf:=hz1.slot.frozen 0
 cases neg
 ·by_cases hx0:x.num=0
  ·have hn':Norm false ws ((-x).num):=by rw [Rat.neg_num,hx0]; rw [hx0] at h4; exact h4
   have HP:=Lib.hid (set_neg hz1 h1 h2 h3 hn' (Rat.neg_den x))
   have hsg:x.num.sign=0:=by rw [hx0]; rfl
   clear h4 hn' h2 hx0
   go_wp2_with fail
   refine (zaP g 0 x.num _ hz1.num).mono ?_
   rintro e w2 ⟨rfl,rfl⟩
   rw [hsg]
   clear hsg
   go_wp2
   go_ret
   exact ⟨rfl,HP.out.1,hu1.trans HP.out.2⟩
  ·have hn':Norm true ws ((-x).num):=⟨h4.wd,h4.top,fun e=>absurd (h4.nil_iff.1 e) hx0,by rw [Rat.neg_num]; have:=h4.eq; simp at this ⊢; omega⟩
   have HP:=Lib.hid (set_neg hz1 h1 h2 h3 hn' (Rat.neg_den x))
   have HSB:=Lib.hid (show (x.num.sign != 0)=true from bne_iff_ne.2 (fun h=>hx0 (Int.sign_eq_zero_iff_zero.1 h)))
   clear h4 hn' h2 hx0
   go_wp2_with fail
   refine (zaP g 0 x.num _ hz1.num).mono ?_
   rintro e w2 ⟨rfl,rfl⟩
   go_wp2
   go_ret
   refine ⟨rfl,?_⟩
   rw [HSB.out]
   exact ⟨HP.out.1,hu1.trans HP.out.2⟩
 ·have hn':Norm false ws ((-x).num):=⟨h4.wd,h4.top,fun _=>rfl,by rw [Rat.neg_num]; have:=h4.eq; simp at this ⊢; omega⟩
  have HP:=Lib.hid (set_neg hz1 h1 h2 h3 hn' (Rat.neg_den x))
  clear h4 hn' h2
  go_wp2
  go_ret
  exact ⟨rfl,HP.out.1,hu1.trans HP.out.2⟩
theorem rsub_calls (g g1 g2:Nat) (x y:Rat) (w:World) (hz:Slot w g 2) (hx:RatAt w g1 x) (hy:RatAt w g2 y) {n m:Nat} (hs:Bdr n x) (ht:Bdr m y) (hn:n+m+1≤big) :
  Calls Tryz.prog 124 #[.pointer (some ⟨g,0,none⟩),.pointer (some ⟨g1,0,none⟩),.pointer (some ⟨g2,0,none⟩)] w fun e w'=>e = .returned (.pointer (some ⟨g,0,none⟩))∧RatAt w' g (x-y)∧Upd w w' g 0 4:=by
 have hu:=Tryz.underlying112
 have hu105:=Tryz.underlying105
 have hnew:=RatAt.new w 112 (by decide)
 have hba:=zaa (Below.refl w.heap.size w) (.cells #[.bool false,.slice none 0 0,.bool false,.slice none 0 0] 112)
 rw [Rat.sub_eq_add_neg]
 go_enter Tryz.func124,Tryz.ntmps124
 go_wp2_with fail
 refine (zcT w.heap.size g2 y _ hnew.slot (hy.below hba) ht (by omega)).mono ?_
 rintro e w1 ⟨rfl,hz1,hu1⟩
 have hb1:=hu1.new hba (Nat.le_refl _)
 go_wp2_with fail
 refine (radd_calls g g1 w.heap.size x (-y) _ (hz.below hb1) (hx.below hb1) hz1 hs ht.neg hn).mono ?_
 rintro e w2 ⟨rfl,hz2,hu2⟩
 go_wp2
 go_ret
 exact ⟨rfl,hz2,hu2.lift hb1⟩
end Go.Proofs.P9
end
section
namespace Go.Proofs.P9
open Go.RowKit Go.Proofs.W9.Wa Go.Proofs.W9.Wb Go.Proofs.W9.Wc
attribute [local go_sem] zaC zaB zaL zaK zaz zay zaE zaD
set_option linter.unusedVariables false
set_option linter.unusedSimpArgs false
def c1_trim.l0:Nat→List Int→Option (List Int)
 | 0,_=>none
 | k+1,x0=>if (x0.length:Int)>0 then (if 0≤(wrap64 ((x0.length:Int)-1)) then (if (wrap64 ((x0.length:Int)-1))<(x0.length:Int) then (if (rd x0 (wrap64 ((x0.length:Int)-1)))=0 then (if (wrap64 ((x0.length:Int)-1))≤(x0.length:Int) then (c1_trim.l0 k (x0.take ((wrap64 ((x0.length:Int)-1)):Int).toNat)) else (none)) else (some x0)) else (none)) else (none)) else (some x0)
def c1_trim.f (k:Nat) (l0:List Int):Option (List Int):=c1_trim.l0 k l0
theorem c1_trim.calls (k : Nat) (P0_ : Nat → Prop) (A0 : Option Addr) (c0 : Nat) (l0 : List Int) (r : List Int) (w : World) (hs0 : Kd.V (Kd.int .i64) 3 w w.heap.size (fun k_ => P0_ k_) (.slice A0 l0.length c0) l0) (h : c1_trim.f k l0 = some r) :
  Calls Tryz.prog 208 #[.slice A0 l0.length c0] w fun e w'=>∃ v0_:Value,e = .returned (v0_)∧Kd.V (Kd.int .i64) 3 w' w.heap.size (fun k_=>(P0_ k_∨w.heap.size≤k_)) v0_ r∧Below w.heap.size w w':=by
 have HO0:=Aside0.mk (show Kd.V (Kd.int .i64) 3 w w.heap.size (fun k_=>(P0_ k_∨w.heap.size≤k_)) (.slice A0 l0.length c0) l0 from Kd.V_mono hs0 (fun k_ hk => .inl hk))
 have HB:=Aside0.mk (Below.refl w.heap.size w)
 have H:(c1_trim.l0 k l0)=some r:=h
 clear h
 have H':=Aside0.mk H
 clear H
 go_enter Tryz.func208,Tryz.ntmps208
 go_wp2
 go_loopg [0] k (fun kq v0 w'=>∃ (x0_1:List Int),Aside0 (c1_trim.l0 kq x0_1=some r)∧Aside0 (kq≤k)∧Aside0 (Kd.V (Kd.int .i64) 3 w' w.heap.size (fun k_=>(P0_ k_∨w.heap.size≤k_)) v0 x0_1)∧Aside0 (Below w.heap.size w w'))
 case atStart=>exact ⟨(l0),H',⟨Nat.le_refl _⟩,⟨by (with_reducible repeat (first|apply Kd.V_alloc|apply Kd.V_drewN|apply Kd.V_drew)); exact HO0.out⟩,⟨by repeat (first|(with_reducible first|exact HB.out|apply zaa|apply zab|apply zad)|exact HB.out)⟩⟩
 case round =>
  clear H'
  obtain ⟨x0_1,HA,HK1,HO_0,HB⟩:=hrel
  cases gk with
  | zero=>exact absurd HA.out (by simp [c1_trim.l0])
  | succ k1 =>
   have H:=HA.out
   clear HA
   simp only [c1_trim.l0] at H
   by_cases c2:(x0_1.length:Int)>0
   ·rw [if_pos c2] at H
    have c2b0:decide (0<(x0_1.length:Int))=true:=decide_eq_true c2
    have c2b1:decide (0<x0_1.length)=true:=decide_eq_true (by omega)
    clear c2
    obtain ⟨ji3,hji3⟩:∃ j_:Int,(wrap64 ((x0_1.length:Int)-1))=j_:=⟨_,rfl⟩
    replace H:(if 0≤(ji3) then (if (ji3)<(x0_1.length:Int) then (if (rd x0_1 (ji3))=0 then (if (ji3)≤(x0_1.length:Int) then (c1_trim.l0 k1 (x0_1.take ((ji3):Int).toNat)) else (none)) else (some x0_1)) else (none)) else (none))=some r:=by first|(rw [hji3] at H; exact H)|(simp only [hji3] at H ⊢; exact H)
    have hji3w:(IntKind.i64.wrap ((x0_1.length:Int)-1))=ji3:=(i64_w _).trans hji3
    by_cases c4:0≤(ji3)
    ·rw [if_pos c4] at H
     have c4b0:decide (0≤(ji3))=true:=decide_eq_true c4
     clear c4
     by_cases c5:(ji3)<(x0_1.length:Int)
     ·rw [if_pos c5] at H
      have c5b0:decide ((ji3)<(x0_1.length:Int))=true:=decide_eq_true c5
      clear c5
      by_cases c6:(rd x0_1 (ji3))=0
      ·rw [if_pos c6] at H
       have c6b0:((rd x0_1 (ji3)) == 0)=true:=beq_iff_eq.mpr c6
       have c6b1:((rd x0_1 (ji3)) != 0)=false:=bne_eq_false_iff_eq.mpr c6
       clear c6
       have c7b0:=eq_true (of_decide_eq_true (by first|(with_reducible assumption)|assumption):0≤(ji3))
       by_cases c8:(ji3)≤(x0_1.length:Int)
       ·rw [if_pos c8] at H
        have c8b0:=eq_true c8
        have c8b1:decide ((ji3)≤(x0_1.length:Int))=true:=decide_eq_true c8
        clear c8
        obtain ⟨y221,hy221⟩:∃ y_:List Int,y_=(x0_1.take ((ji3):Int).toNat):=⟨_,rfl⟩
        replace H:(c1_trim.l0 k1 y221)=some r:=by first|(rw [hy221]; with_reducible exact H)|(have H2_:=(Option.bind_some _ _).symm.trans H; rw [hy221]; with_reducible exact H2_)|(have H2_:=(Option.bind_some _ _).symm.trans H; with_reducible exact H2_)|with_reducible exact H|(rw [hy221]; exact H)|exact H
        have Ny221:=Aside0.mk hy221
        clear hy221
        have H':=Aside0.mk H
        clear H
        obtain ⟨Ao9,co9,eo9⟩:=Kd.V_slice HO_0.out
        subst eo9
        have p220:0≤((ji3):Int):=of_decide_eq_true (by first|(with_reducible assumption)|assumption)
        have q220:(ji3)<(x0_1.length:Int):=of_decide_eq_true (by first|(with_reducible assumption)|assumption)
        obtain ⟨ad220,e220,hx220_0⟩:=Kd.at_int (Kd.V_reads' HO_0.out).2.2 (ji3) p220 q220
        cases e220
        replace p220:=eq_true p220
        replace q220:=eq_true q220
        have q10:((ji3):Int)≤((x0_1.length:Int):Int):=of_decide_eq_true (by first|(with_reducible assumption)|assumption)
        obtain ⟨i010,hi010,_,hsz10,_⟩:=info_parts info3
        have hroom10:x0_1.length≤co9:=(Kd.V_reads' HO_0.out).2.1
        have hC10:Kd.F (Kd.int .i64) _ _ (some ad220) x0_1.length x0_1:=(Kd.V_at (base:=w.heap.size) HO_0.out).2.2
        have hcut10:=cut_to (P:=Tryz.prog) 92 3 .i64 Tryz.underlying92 hi010 (some ad220) x0_1.length co9 (ji3) (of_decide_eq_true (by first|(with_reducible assumption)|assumption)) q10 hroom10
        have hr10:=Kd.F_take (m:=((ji3):Int).toNat) hC10 (by omega)
        have hy10:y221.length=((ji3):Int).toNat:=(by rw [Ny221.out,List.length_take]; omega)
        rw [←Ny221.out] at hr10
        rw [←hy10] at hcut10
        have HO225:=Aside0.mk (show Kd.V (Kd.int .i64) 3 _ w.heap.size _ (.slice (some ad220) y221.length co9) y221 from Kd.V_mk (by omega) hr10)
        have HC225:=Aside0.mk (show y221.length≤co9 from by omega)
        clear hr10 hC10 hroom10 hi010 hsz10
        have KY10:=Aside0.mk hy10
        clear hy10
        replace q10:=eq_true q10
        go_wp2
        go_roundg k1
        case measure=>have:=HK1.out; omega
        case rel=>exact ⟨(y221),H',⟨by have:=HK1.out; omega⟩,⟨by (with_reducible repeat (first|apply Kd.V_alloc|apply Kd.V_drewN|apply Kd.V_drew)); exact HO225.out⟩,⟨by repeat (first|(with_reducible first|exact HB.out|apply zaa|apply zab|apply zad)|exact HB.out)⟩⟩
       ·rw [if_neg c8] at H
        exact absurd H (by simp)
      ·rw [if_neg c6] at H
       have c6b0:((rd x0_1 (ji3)) == 0)=false:=beq_eq_false_iff_ne.mpr c6
       have c6b1:((rd x0_1 (ji3)) != 0)=true:=bne_iff_ne.mpr c6
       obtain rfl:=Option.some.inj H
       obtain ⟨Ao11,co11,eo11⟩:=Kd.V_slice HO_0.out
       subst eo11
       have p220:0≤((ji3):Int):=of_decide_eq_true (by first|(with_reducible assumption)|assumption)
       have q220:(ji3)<(x0_1.length:Int):=of_decide_eq_true (by first|(with_reducible assumption)|assumption)
       obtain ⟨ad220,e220,hx220_0⟩:=Kd.at_int (Kd.V_reads' HO_0.out).2.2 (ji3) p220 q220
       cases e220
       replace p220:=eq_true p220
       replace q220:=eq_true q220
       go_wp2
       go_ret
       exact ⟨_,by first|rfl|(simp [zal,zak]<;>rfl)|(simp only [←hji3]; first|rfl|(simp [zal,zak]<;>rfl))|(simp [*,zal,zak]<;>rfl),by (with_reducible repeat (first|apply Kd.V_alloc|apply Kd.V_drewN|apply Kd.V_drew)); exact HO_0.out,by repeat (first|(with_reducible first|exact HB.out|apply zaa|apply zab|apply zad)|exact HB.out)⟩
     ·rw [if_neg c5] at H
      exact absurd H (by simp)
    ·rw [if_neg c4] at H
     exact absurd H (by simp)
   ·rw [if_neg c2] at H
    have c2b0:decide (0<(x0_1.length:Int))=false:=decide_eq_false c2
    have c2b1:decide (0<x0_1.length)=false:=decide_eq_false (by omega)
    clear c2
    obtain rfl:=Option.some.inj H
    obtain ⟨Ao12,co12,eo12⟩:=Kd.V_slice HO_0.out
    subst eo12
    go_wp2
    go_ret
    exact ⟨_,by first|rfl|(simp [zal,zak]<;>rfl)|(simp [*,zal,zak]<;>rfl),by (with_reducible repeat (first|apply Kd.V_alloc|apply Kd.V_drewN|apply Kd.V_drew)); exact HO_0.out,by repeat (first|(with_reducible first|exact HB.out|apply zaa|apply zab|apply zad)|exact HB.out)⟩
end Go.Proofs.P9
end
