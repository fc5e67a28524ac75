/- Texts under the proof, joined by a program (prune.py): P101, P110, STimes, QRef, QRef2, P117, QRef3, P100, SLess, P102, SFits, P103, STake, SDiv, HTrim, HLimbs, HMinus, HTake. -/
import Derived.Test.YtglaeambknhjlaaGreatDoorCRatField01
import Derived.Test.YtglaeambknhjlaaGreatDoorCRatField05
import Derived.Test.YtglaeambknhjlaaGreatDoorCRatField06
import Derived.Test.YtglaeambknhjlaaGreatDoorCRatField03
set_option linter.unusedVariables false
set_option linter.unusedSimpArgs false
set_option exponentiation.threshold 20001
set_option maxHeartbeats 8000000
set_option maxRecDepth 100000
section
namespace Go.Proofs.ZP
open Go.RowKit Go.Proofs.ZW.Wa Go.Proofs.ZW.Wb Go.Proofs.ZW.Wc
attribute [local go_sem] zaM zaK zaZ zaY zaC zaB zaL zaJ
mutual
def c1_times.l0:Nat→List Int→List Int→List Int→Int→Option (List Int)
 | 0,_,_,_,_=>none
 | k+1,x0,x1,x5,x6=>if x6<(x0.length:Int) then (c1_times.l1 k x0 x1 x5 x6 0 0) else ((c1_trim.f k x5).bind fun t275=>(some t275))
def c1_times.l1:Nat→List Int→List Int→List Int→Int→Int→Int→Option (List Int)
 | 0,_,_,_,_,_,_=>none
 | k+1,x0,x1,x5,x6,x7,x8=>if x8<(x1.length:Int) then (if 0≤(wrap64 (x6+x8)) then (if (wrap64 (x6+x8))<(x5.length:Int) then (if 0≤x6 then (if x6<(x0.length:Int) then (if 0≤x8 then (c1_times.l1 k x0 x1 (x5.set ((wrap64 (x6+x8)):Int).toNat (Int.tmod (wrap64 ((wrap64 (x7+(rd x5 (wrap64 (x6+x8)))))+(wrap64 ((rd x0 x6)*(rd x1 x8))))) 10000)) x6 (wrap64 (Int.tdiv (wrap64 ((wrap64 (x7+(rd x5 (wrap64 (x6+x8)))))+(wrap64 ((rd x0 x6)*(rd x1 x8))))) 10000)) (wrap64 (x8+1))) else (none)) else (none)) else (none)) else (none)) else (none)) else (c1_times.l2 k x0 x1 x5 x6 x7 (wrap64 (x6+(x1.length:Int))))
def c1_times.l2:Nat→List Int→List Int→List Int→Int→Int→Int→Option (List Int)
 | 0,_,_,_,_,_,_=>none
 | k+1,x0,x1,x5,x6,x7,x9=>if x7>0 then (if 0≤x9 then (if x9<(x5.length:Int) then (c1_times.l2 k x0 x1 (x5.set (x9:Int).toNat (Int.tmod (wrap64 (x7+(rd x5 x9))) 10000)) x6 (wrap64 (Int.tdiv (wrap64 (x7+(rd x5 x9))) 10000)) (wrap64 (x9+1))) else (none)) else (none)) else (c1_times.l0 k x0 x1 x5 (wrap64 (x6+1)))
end
def c1_times.f (k:Nat) (l0:List Int) (l1:List Int):Option (List Int):=if 0≤(wrap64 ((l0.length:Int)+(l1.length:Int))) then (if (wrap64 ((l0.length:Int)+(l1.length:Int)):Int).toNat≤35184372088832 then (c1_times.l0 k l0 l1 (List.replicate (wrap64 ((l0.length:Int)+(l1.length:Int)):Int).toNat 0) 0) else (none)) else (none)
theorem c1_times.calls (k:Nat) (A0:Option Addr) (c0:Nat) (l0:List Int) (A1:Option Addr) (c1:Nat) (l1:List Int) (r:List Int) (w:World) (hr0:Kd.C (Kd.int .i64) w A0 l0.length l0) (hc0:l0.length≤c0) (hr1:Kd.C (Kd.int .i64) w A1 l1.length l1) (hc1:l1.length≤c1) (h:c1_times.f k l0 l1=some r) :
  Calls Tryz.prog 209 #[.slice A0 l0.length c0,.slice A1 l1.length c1] w fun e w'=>∃ v0_:Value,e = .returned (v0_)∧Kd.V (Kd.int .i64) 3 w' w.heap.size (fun k_=>(w.heap.size≤k_)) v0_ r∧Below w.heap.size w w':=by
 have HR0:=Aside0.mk hr0
 have HC0:=Aside0.mk hc0
 clear hr0 hc0
 have HR1:=Aside0.mk hr1
 have HC1:=Aside0.mk hc1
 clear hr1 hc1
 have HB:=Aside0.mk (Below.refl w.heap.size w)
 have H:(if 0≤(wrap64 ((l0.length:Int)+(l1.length:Int))) then (if (wrap64 ((l0.length:Int)+(l1.length:Int)):Int).toNat≤35184372088832 then (c1_times.l0 k l0 l1 (List.replicate (wrap64 ((l0.length:Int)+(l1.length:Int)):Int).toNat 0) 0) else (none)) else (none))=some r:=h
 clear h
 obtain ⟨ji3,hji3⟩:∃ j_:Int,(wrap64 ((l0.length:Int)+(l1.length:Int)))=j_:=⟨_,rfl⟩
 replace H:(if 0≤(ji3) then (if (ji3:Int).toNat≤35184372088832 then (c1_times.l0 k l0 l1 (List.replicate (ji3:Int).toNat 0) 0) else (none)) else (none))=some r:=by first|(rw [hji3] at H; exact H)|(simp only [hji3] at H ⊢; exact H)
 have hji3w:(IntKind.i64.wrap ((l0.length:Int)+(l1.length:Int)))=ji3:=(i64_w _).trans hji3
 by_cases c4:0≤(ji3)
 ·rw [if_pos c4] at H
  have c4b0:=eq_true c4
  have c4b1:decide (0≤(ji3))=true:=decide_eq_true c4
  clear c4
  by_cases c5:(ji3:Int).toNat≤35184372088832
  ·rw [if_pos c5] at H
   have c5b0:=eq_true c5
   have c5b1:decide ((ji3:Int).toNat≤35184372088832)=true:=decide_eq_true c5
   clear c5
   obtain ⟨y272,hy272⟩:∃ y_:List Int,y_=(List.replicate (ji3:Int).toNat 0):=⟨_,rfl⟩
   replace H:(c1_times.l0 k l0 l1 y272 0)=some r:=by first|(rw [hy272]; with_reducible exact H)|(have H2_:=(Option.bind_some _ _).symm.trans H; rw [hy272]; with_reducible exact H2_)|(have H2_:=(Option.bind_some _ _).symm.trans H; with_reducible exact H2_)|with_reducible exact H|(rw [hy272]; exact H)|exact H
   have Ny272:=Aside0.mk hy272
   clear hy272
   have H':=Aside0.mk H
   clear H
   go_enter Tryz.func209,Tryz.ntmps209
   go_wp2_with (first|((with_reducible refine za8 (N:=15) rfl ?_); refine Kd.R_make (Kd.int .i64) _ 3 rfl (N:=15) rfl 92 _ _ rfl ji3 rfl rfl Tryz.underlying92 (.int .i64 0) 8 info3 rfl (by decide) (by omega) 0 (ok:=fun _=>True) (okp:=fun _=>True) rfl (fun _ hk=>hk) trivial (of_decide_eq_true (by first|(with_reducible assumption)|assumption)) (Nat.le_trans (Nat.mul_le_mul_right _ (of_decide_eq_true (by first|(with_reducible assumption)|assumption):ji3.toNat≤35184372088832)) (by omega)) (Below.refl _ _) (Nat.le_refl _) ?_; intro v273 w6 ho7 hb hg_ hnew_; clear hg_ hnew_; (first|rw [←Ny272.out] at ho7|(simp only [Int.reduceToNat] at ho7; rw [←Ny272.out] at ho7)); have n0_:=Aside0.mk (Kd.R_lower (Kd.R_newM (M:=fun k_=>(w.heap.size≤k_)) ho7 (zar (by repeat (first|(with_reducible first|exact HB.out|apply zaa|apply zab|apply zae)|exact HB.out))) (fun k_ h_=>h_)) (zar (by repeat (first|(with_reducible first|exact HB.out|apply zaa|apply zab|apply zae)|exact HB.out)))); have n1_:=Aside0.mk (zam (by repeat (first|(with_reducible first|exact HB.out|apply zaa|apply zab|apply zae)|exact HB.out)) hb); clear HB; have HO274:=n0_; have HB:=n1_; clear n0_ n1_; clear hb ho7))
   go_loopg [6] k (fun kq v6 w'=>∃ (x5_1:List Int) (x6_1:Int),v6 = .int .i64 x6_1∧Aside0 (c1_times.l0 kq l0 l1 x5_1 x6_1=some r)∧Aside0 (kq≤k)∧Aside0 (Kd.R (Kd.int .i64) 3 w' w.heap.size (fun k_=>(w.heap.size≤k_)) v273 x5_1)∧Aside0 (Below w.heap.size w w'))
   case atStart=>exact ⟨(y272),(0),(by first|rfl|(simp; done)|(simp [*]; done)),H',⟨Nat.le_refl _⟩,⟨by (with_reducible repeat (first|apply Kd.R_alloc|apply Kd.R_drewN|apply Kd.R_drew)); exact Kd.R_mono HO274.out (fun _ hk=>hk.1)⟩,⟨by repeat (first|(with_reducible first|exact HB.out|apply zaa|apply zab|apply zae)|exact HB.out)⟩⟩
   case round =>
    clear H'
    try clear c1
    try clear c2
    try clear p2
    try clear c4
    try clear c4b0
    try clear c4b1
    try clear c5
    try clear c5b0
    try clear c5b1
    try clear p6
    obtain ⟨x5_1,x6_1,rfl,HA,HK1,HO_5,HB⟩:=hrel
    cases gk with
    | zero=>exact absurd HA.out (by simp [c1_times.l0])
    | succ k1 =>
     have H:=HA.out
     clear HA
     simp only [c1_times.l0] at H
     by_cases c8:x6_1<(l0.length:Int)
     ·rw [if_pos c8] at H
      have c8b0:decide (x6_1<(l0.length:Int))=true:=decide_eq_true c8
      clear c8
      have H':=Aside0.mk H
      clear H
      go_wp2
      go_loopg [7,8] k1 (fun kq v7 v8 w'=>∃ (x5_2:List Int) (x7_2:Int) (x8_2:Int),v7 = .int .i64 x7_2∧v8 = .int .i64 x8_2∧Aside0 (c1_times.l1 kq l0 l1 x5_2 x6_1 x7_2 x8_2=some r)∧Aside0 (kq≤k1)∧Aside0 (Kd.R (Kd.int .i64) 3 w' w.heap.size (fun k_=>(w.heap.size≤k_)) v273 x5_2)∧Aside0 (Below w.heap.size w w'))
      case atStart=>exact ⟨(x5_1),(0),(0),(by first|rfl|(simp; done)|(simp [*]; done)),(by first|rfl|(simp; done)|(simp [*]; done)),H',⟨Nat.le_refl _⟩,⟨by (with_reducible repeat (first|apply Kd.R_alloc|apply Kd.R_drewN|apply Kd.R_drew)); exact HO_5.out⟩,⟨by repeat (first|(with_reducible first|exact HB.out|apply zaa|apply zab|apply zae)|exact HB.out)⟩⟩
      case round =>
       clear H'
       try clear c1
       try clear c2
       try clear p2
       try clear c4
       try clear c4b0
       try clear c4b1
       try clear c5
       try clear c5b0
       try clear c5b1
       try clear p6
       try clear c8
       try clear c8b0
       try clear p2
       try clear p6
       obtain ⟨x5_2,x7_2,x8_2,rfl,rfl,HA,HK2,HO_5,HB⟩:=hrel
       cases gk with
       | zero=>exact absurd HA.out (by simp [c1_times.l1])
       | succ k2 =>
        have H:=HA.out
        clear HA
        simp only [c1_times.l1] at H
        by_cases c9:x8_2<(l1.length:Int)
        ·rw [if_pos c9] at H
         have c9b0:decide (x8_2<(l1.length:Int))=true:=decide_eq_true c9
         clear c9
         obtain ⟨ji10,hji10⟩:∃ j_:Int,(wrap64 (x6_1+x8_2))=j_:=⟨_,rfl⟩
         replace H:(if 0≤(ji10) then (if (ji10)<(x5_2.length:Int) then (if 0≤x6_1 then (if x6_1<(l0.length:Int) then (if 0≤x8_2 then (c1_times.l1 k2 l0 l1 (x5_2.set ((ji10):Int).toNat (Int.tmod (wrap64 ((wrap64 (x7_2+(rd x5_2 (ji10))))+(wrap64 ((rd l0 x6_1)*(rd l1 x8_2))))) 10000)) x6_1 (wrap64 (Int.tdiv (wrap64 ((wrap64 (x7_2+(rd x5_2 (ji10))))+(wrap64 ((rd l0 x6_1)*(rd l1 x8_2))))) 10000)) (wrap64 (x8_2+1))) else (none)) else (none)) else (none)) else (none)) else (none))=some r:=by first|(rw [hji10] at H; exact H)|(simp only [hji10] at H ⊢; exact H)
         have hji10w:(IntKind.i64.wrap (x6_1+x8_2))=ji10:=(i64_w _).trans hji10
         by_cases c11:0≤(ji10)
         ·rw [if_pos c11] at H
          have c11b0:decide (0≤(ji10))=true:=decide_eq_true c11
          clear c11
          by_cases c12:(ji10)<(x5_2.length:Int)
          ·rw [if_pos c12] at H
           have c12b0:decide ((ji10)<(x5_2.length:Int))=true:=decide_eq_true c12
           clear c12
           by_cases c13:0≤x6_1
           ·rw [if_pos c13] at H
            have c13b0:decide (0≤x6_1)=true:=decide_eq_true c13
            clear c13
            by_cases c14:x6_1<(l0.length:Int)
            ·rw [if_pos c14] at H
             have c14b0:decide (x6_1<(l0.length:Int))=true:=decide_eq_true c14
             clear c14
             by_cases c15:0≤x8_2
             ·rw [if_pos c15] at H
              have c15b0:decide (0≤x8_2)=true:=decide_eq_true c15
              clear c15
              obtain ⟨y281,hy281⟩:∃ y_:List Int,y_=(x5_2.set ((ji10):Int).toNat (Int.tmod (wrap64 ((wrap64 (x7_2+(rd x5_2 (ji10))))+(wrap64 ((rd l0 x6_1)*(rd l1 x8_2))))) 10000)):=⟨_,rfl⟩
              replace H:(c1_times.l1 k2 l0 l1 y281 x6_1 (wrap64 (Int.tdiv (wrap64 ((wrap64 (x7_2+(rd x5_2 (ji10))))+(wrap64 ((rd l0 x6_1)*(rd l1 x8_2))))) 10000)) (wrap64 (x8_2+1)))=some r:=by first|(rw [hy281]; with_reducible exact H)|(have H2_:=(Option.bind_some _ _).symm.trans H; rw [hy281]; with_reducible exact H2_)|(have H2_:=(Option.bind_some _ _).symm.trans H; with_reducible exact H2_)|with_reducible exact H|(rw [hy281]; exact H)|exact H
              have Ny281:=Aside0.mk hy281
              clear hy281
              have H':=Aside0.mk H
              clear H
              obtain ⟨Ao17,co17,eo17⟩:=Kd.R_slice HO_5.out
              subst eo17
              have p278:0≤((ji10):Int):=of_decide_eq_true (by first|(with_reducible assumption)|assumption)
              have q278:(ji10)<(x5_2.length:Int):=of_decide_eq_true (by first|(with_reducible assumption)|assumption)
              obtain ⟨ad278,e278,hx278_0⟩:=Kd.at_int (Kd.R_reads' HO_5.out).2.2 (ji10) p278 q278
              cases e278
              replace p278:=eq_true p278
              replace q278:=eq_true q278
              have p279:0≤(x6_1:Int):=of_decide_eq_true (by first|(with_reducible assumption)|assumption)
              have q279:x6_1<(l0.length:Int):=of_decide_eq_true (by first|(with_reducible assumption)|assumption)
              obtain ⟨ad279,e279,hx279_0⟩:=Kd.at_int HR0.out x6_1 p279 q279
              cases e279
              replace hx279_0:=(HB.out.cell (World.block_lt_of_cell? w _ hx279_0)).trans hx279_0
              replace p279:=eq_true p279
              replace q279:=eq_true q279
              have p280:0≤(x8_2:Int):=of_decide_eq_true (by first|(with_reducible assumption)|assumption)
              have q280:x8_2<(l1.length:Int):=of_decide_eq_true (by first|(with_reducible assumption)|assumption)
              obtain ⟨ad280,e280,hx280_0⟩:=Kd.at_int HR1.out x8_2 p280 q280
              cases e280
              replace hx280_0:=(HB.out.cell (World.block_lt_of_cell? w _ hx280_0)).trans hx280_0
              replace p280:=eq_true p280
              replace q280:=eq_true q280
              have p16:0≤((ji10):Int):=of_decide_eq_true (by first|(with_reducible assumption)|assumption)
              have q16:((ji10):Int)<((x5_2.length:Int):Int):=of_decide_eq_true (by first|(with_reducible assumption)|assumption)
              obtain ⟨go16,co16,eo16,gb16,gl16,cl16,HG16⟩:=Kd.R_form HO_5.out (by omega)
              (first|cases eo16|(injection eo16 with ea_ en_ ec_; (first|subst ea_|(injection ea_ with ea_; subst ea_)); subst ec_; clear en_))
              have GB16:=Aside0.mk gb16
              have GG16:=Aside0.mk HG16
              clear gb16 gl16 HG16
              (first|simp only [zbi] at hx278_0|skip)
              obtain ⟨hx16_0,hf16_0⟩:=Kd.R_celln 0 HO_5.out ((ji10):Int) p16 q16
              replace p16:=eq_true p16
              replace q16:=eq_true q16
              have HP18:=Kd.R_putg HO_5.out ((ji10):Int) (Int.tmod (wrap64 ((wrap64 (x7_2+(rd x5_2 (ji10))))+(wrap64 ((rd l0 x6_1)*(rd l1 x8_2))))) 10000)
              go_wp2_with (first|((with_reducible refine zbh (t:=3) (p:=52) rfl ?_); (try (rw [zcC wr]; generalize hq_:World.drewN wr _=wr; have n0_:=Aside0.mk (Kd.R_at hq_ HO_5.out); have n1_:=Aside0.mk (below_at hq_ HB.out); clear hq_ HO_5 HB; have HO_5:=n0_; have HB:=n1_; clear n0_ n1_; (try (have HP18:=Kd.R_putg HO_5.out ((ji10):Int) (Int.tmod (wrap64 ((wrap64 (x7_2+(rd x5_2 (ji10))))+(wrap64 ((rd l0 x6_1)*(rd l1 x8_2))))) 10000))))); refine za5 (t:=3) (p:=52) (v:=?vo_w19) (w1:=(wr.setCell ⟨go16,((ji10):Int).toNat,none⟩ (.int .i64 (Int.tmod (wrap64 ((wrap64 (x7_2+(rd x5_2 (ji10))))+(wrap64 ((rd l0 x6_1)*(rd l1 x8_2))))) 10000)))) ?hg ?ho ?hn ?hr ?_; (case ho=>rfl); (case hg=>rfl); (case hn=>rfl); (case hr=>first|(go_simp; done)|(go_simp; rfl)); intro w19 hw; have hg:wr.grownBy w19 (some go16):=(by rw [hw]; exact HP18.2); have hp_:Kd.R (Kd.int .i64) 3 w19 w.heap.size (fun k_=>(w.heap.size≤k_)) (.slice (some ⟨go16,0,none⟩) x5_2.length co17) y281:=(by rw [hw,Ny281.out]; exact HP18.1); clear HP18; have n0_:=Aside0.mk (hp_); have n1_:=Aside0.mk ((by rw [hw]; exact zag (HB.out) GB16.out:Below w.heap.size w w19)); clear HO_5; clear HB; have HO_5:=n0_; have HB:=n1_; clear n0_ n1_; clear hg hw hp_))
              repeat (go_quiet (first|((with_reducible refine zbh (t:=3) (p:=52) rfl ?_); (try (rw [zcC wr]; generalize hq_:World.drewN wr _=wr; have n0_:=Aside0.mk (Kd.R_at hq_ HO_5.out); have n1_:=Aside0.mk (below_at hq_ HB.out); clear hq_ HO_5 HB; have HO_5:=n0_; have HB:=n1_; clear n0_ n1_; (try (have HP18:=Kd.R_putg HO_5.out ((ji10):Int) (Int.tmod (wrap64 ((wrap64 (x7_2+(rd x5_2 (ji10))))+(wrap64 ((rd l0 x6_1)*(rd l1 x8_2))))) 10000))))); refine za5 (t:=3) (p:=52) (v:=?vo_w19) (w1:=(wr.setCell ⟨go16,((ji10):Int).toNat,none⟩ (.int .i64 (Int.tmod (wrap64 ((wrap64 (x7_2+(rd x5_2 (ji10))))+(wrap64 ((rd l0 x6_1)*(rd l1 x8_2))))) 10000)))) ?hg ?ho ?hn ?hr ?_; (case ho=>rfl); (case hg=>rfl); (case hn=>rfl); (case hr=>first|(go_simp; done)|(go_simp; rfl)); intro w19 hw; have hg:wr.grownBy w19 (some go16):=(by rw [hw]; exact HP18.2); have hp_:Kd.R (Kd.int .i64) 3 w19 w.heap.size (fun k_=>(w.heap.size≤k_)) (.slice (some ⟨go16,0,none⟩) x5_2.length co17) y281:=(by rw [hw,Ny281.out]; exact HP18.1); clear HP18; have n0_:=Aside0.mk (hp_); have n1_:=Aside0.mk ((by rw [hw]; exact zag (HB.out) GB16.out:Below w.heap.size w w19)); clear HO_5; clear HB; have HO_5:=n0_; have HB:=n1_; clear n0_ n1_; clear hg hw hp_)); try go_wp2_with (first|((with_reducible refine zbh (t:=3) (p:=52) rfl ?_); (try (rw [zcC wr]; generalize hq_:World.drewN wr _=wr; have n0_:=Aside0.mk (Kd.R_at hq_ HO_5.out); have n1_:=Aside0.mk (below_at hq_ HB.out); clear hq_ HO_5 HB; have HO_5:=n0_; have HB:=n1_; clear n0_ n1_; (try (have HP18:=Kd.R_putg HO_5.out ((ji10):Int) (Int.tmod (wrap64 ((wrap64 (x7_2+(rd x5_2 (ji10))))+(wrap64 ((rd l0 x6_1)*(rd l1 x8_2))))) 10000))))); refine za5 (t:=3) (p:=52) (v:=?vo_w19) (w1:=(wr.setCell ⟨go16,((ji10):Int).toNat,none⟩ (.int .i64 (Int.tmod (wrap64 ((wrap64 (x7_2+(rd x5_2 (ji10))))+(wrap64 ((rd l0 x6_1)*(rd l1 x8_2))))) 10000)))) ?hg ?ho ?hn ?hr ?_; (case ho=>rfl); (case hg=>rfl); (case hn=>rfl); (case hr=>first|(go_simp; done)|(go_simp; rfl)); intro w19 hw; have hg:wr.grownBy w19 (some go16):=(by rw [hw]; exact HP18.2); have hp_:Kd.R (Kd.int .i64) 3 w19 w.heap.size (fun k_=>(w.heap.size≤k_)) (.slice (some ⟨go16,0,none⟩) x5_2.length co17) y281:=(by rw [hw,Ny281.out]; exact HP18.1); clear HP18; have n0_:=Aside0.mk (hp_); have n1_:=Aside0.mk ((by rw [hw]; exact zag (HB.out) GB16.out:Below w.heap.size w w19)); clear HO_5; clear HB; have HO_5:=n0_; have HB:=n1_; clear n0_ n1_; clear hg hw hp_)))
              go_roundg k2
              case measure=>have:=HK1.out; have:=HK2.out; omega
              case rel=>exact ⟨(y281),(wrap64 (Int.tdiv (wrap64 ((wrap64 (x7_2+(rd x5_2 (ji10))))+(wrap64 ((rd l0 x6_1)*(rd l1 x8_2))))) 10000)),(wrap64 (x8_2+1)),(by first|rfl|(simp; done)|(simp only [←hji10]<;>(first|rfl|simp))|(simp [*]; done)),(by first|rfl|(simp; done)|(simp [*]; done)),H',⟨by have:=HK1.out; have:=HK2.out; omega⟩,⟨by (first|((with_reducible repeat (first|apply Kd.R_alloc|apply Kd.R_drewN|apply Kd.R_drew)); exact HO_5.out)|(rw [Ny281.out]; exact (Kd.R_putg (Kd.R_drewN HO_5.out _) _ _).1))⟩,⟨by (first|((repeat (first|(with_reducible first|exact HB.out|apply zaa|apply zab|apply zae)|exact HB.out)); done)|exact zag (zab HB.out _) GB16.out)⟩⟩
             ·rw [if_neg c15] at H
              exact absurd H (by simp)
            ·rw [if_neg c14] at H
             exact absurd H (by simp)
           ·rw [if_neg c13] at H
            exact absurd H (by simp)
          ·rw [if_neg c12] at H
           exact absurd H (by simp)
         ·rw [if_neg c11] at H
          exact absurd H (by simp)
        ·rw [if_neg c9] at H
         have c9b0:decide (x8_2<(l1.length:Int))=false:=decide_eq_false c9
         clear c9
         have H':=Aside0.mk H
         clear H
         go_wp2
         go_loopg [7,9] k2 (fun kq v7 v9 w'=>∃ (x5_3:List Int) (x7_3:Int) (x9_3:Int),v7 = .int .i64 x7_3∧v9 = .int .i64 x9_3∧Aside0 (c1_times.l2 kq l0 l1 x5_3 x6_1 x7_3 x9_3=some r)∧Aside0 (kq≤k2)∧Aside0 (Kd.R (Kd.int .i64) 3 w' w.heap.size (fun k_=>(w.heap.size≤k_)) v273 x5_3)∧Aside0 (Below w.heap.size w w'))
         case atStart=>exact ⟨(x5_2),(x7_2),(wrap64 (x6_1+(l1.length:Int))),(by first|rfl|(simp; done)|(simp [*]; done)),(by first|rfl|(simp; done)|(simp [*]; done)),H',⟨Nat.le_refl _⟩,⟨by (with_reducible repeat (first|apply Kd.R_alloc|apply Kd.R_drewN|apply Kd.R_drew)); exact HO_5.out⟩,⟨by repeat (first|(with_reducible first|exact HB.out|apply zaa|apply zab|apply zae)|exact HB.out)⟩⟩
         case round =>
          clear H'
          try clear c1
          try clear p1
          try clear q1
          try clear c2
          try clear p2
          try clear q2
          try clear c4
          try clear c4b0
          try clear c4b1
          try clear c5
          try clear c5b0
          try clear c5b1
          try clear p6
          try clear c8
          try clear c8b0
          try clear c9
          try clear c9b0
          try clear c11
          try clear c11b0
          try clear c12
          try clear c12b0
          try clear c13
          try clear c13b0
          try clear c14
          try clear c14b0
          try clear c15
          try clear c15b0
          try clear p16
          try clear q16
          try clear p16
          try clear p2
          try clear p278
          try clear p279
          try clear p280
          try clear p6
          try clear q16
          try clear q278
          try clear q279
          try clear q280
          obtain ⟨x5_3,x7_3,x9_3,rfl,rfl,HA,HK3,HO_5,HB⟩:=hrel
          cases gk with
          | zero=>exact absurd HA.out (by simp [c1_times.l2])
          | succ k3 =>
           have H:=HA.out
           clear HA
           simp only [c1_times.l2] at H
           by_cases c20:x7_3>0
           ·rw [if_pos c20] at H
            have c20b0:decide (0<x7_3)=true:=decide_eq_true c20
            clear c20
            by_cases c21:0≤x9_3
            ·rw [if_pos c21] at H
             have c21b0:decide (0≤x9_3)=true:=decide_eq_true c21
             clear c21
             by_cases c22:x9_3<(x5_3.length:Int)
             ·rw [if_pos c22] at H
              have c22b0:decide (x9_3<(x5_3.length:Int))=true:=decide_eq_true c22
              clear c22
              obtain ⟨y283,hy283⟩:∃ y_:List Int,y_=(x5_3.set (x9_3:Int).toNat (Int.tmod (wrap64 (x7_3+(rd x5_3 x9_3))) 10000)):=⟨_,rfl⟩
              replace H:(c1_times.l2 k3 l0 l1 y283 x6_1 (wrap64 (Int.tdiv (wrap64 (x7_3+(rd x5_3 x9_3))) 10000)) (wrap64 (x9_3+1)))=some r:=by first|(rw [hy283]; with_reducible exact H)|(have H2_:=(Option.bind_some _ _).symm.trans H; rw [hy283]; with_reducible exact H2_)|(have H2_:=(Option.bind_some _ _).symm.trans H; with_reducible exact H2_)|with_reducible exact H|(rw [hy283]; exact H)|exact H
              have Ny283:=Aside0.mk hy283
              clear hy283
              have H':=Aside0.mk H
              clear H
              obtain ⟨Ao24,co24,eo24⟩:=Kd.R_slice HO_5.out
              subst eo24
              have p282:0≤(x9_3:Int):=of_decide_eq_true (by first|(with_reducible assumption)|assumption)
              have q282:x9_3<(x5_3.length:Int):=of_decide_eq_true (by first|(with_reducible assumption)|assumption)
              obtain ⟨ad282,e282,hx282_0⟩:=Kd.at_int (Kd.R_reads' HO_5.out).2.2 x9_3 p282 q282
              cases e282
              replace p282:=eq_true p282
              replace q282:=eq_true q282
              have p23:0≤(x9_3:Int):=of_decide_eq_true (by first|(with_reducible assumption)|assumption)
              have q23:(x9_3:Int)<((x5_3.length:Int):Int):=of_decide_eq_true (by first|(with_reducible assumption)|assumption)
              obtain ⟨go23,co23,eo23,gb23,gl23,cl23,HG23⟩:=Kd.R_form HO_5.out (by omega)
              (first|cases eo23|(injection eo23 with ea_ en_ ec_; (first|subst ea_|(injection ea_ with ea_; subst ea_)); subst ec_; clear en_))
              have GB23:=Aside0.mk gb23
              have GG23:=Aside0.mk HG23
              clear gb23 gl23 HG23
              (first|simp only [zbi] at hx282_0|skip)
              obtain ⟨hx23_0,hf23_0⟩:=Kd.R_celln 0 HO_5.out (x9_3:Int) p23 q23
              replace p23:=eq_true p23
              replace q23:=eq_true q23
              have HP25:=Kd.R_putg HO_5.out (x9_3:Int) (Int.tmod (wrap64 (x7_3+(rd x5_3 x9_3))) 10000)
              go_wp2_with (first|((with_reducible refine zbh (t:=3) (p:=73) rfl ?_); (try (rw [zcC wr]; generalize hq_:World.drewN wr _=wr; have n0_:=Aside0.mk (Kd.R_at hq_ HO_5.out); have n1_:=Aside0.mk (below_at hq_ HB.out); clear hq_ HO_5 HB; have HO_5:=n0_; have HB:=n1_; clear n0_ n1_; (try (have HP25:=Kd.R_putg HO_5.out (x9_3:Int) (Int.tmod (wrap64 (x7_3+(rd x5_3 x9_3))) 10000))))); refine za5 (t:=3) (p:=73) (v:=?vo_w26) (w1:=(wr.setCell ⟨go23,(x9_3:Int).toNat,none⟩ (.int .i64 (Int.tmod (wrap64 (x7_3+(rd x5_3 x9_3))) 10000)))) ?hg ?ho ?hn ?hr ?_; (case ho=>rfl); (case hg=>rfl); (case hn=>rfl); (case hr=>first|(go_simp; done)|(go_simp; rfl)); intro w26 hw; have hg:wr.grownBy w26 (some go23):=(by rw [hw]; exact HP25.2); have hp_:Kd.R (Kd.int .i64) 3 w26 w.heap.size (fun k_=>(w.heap.size≤k_)) (.slice (some ⟨go23,0,none⟩) x5_3.length co24) y283:=(by rw [hw,Ny283.out]; exact HP25.1); clear HP25; have n0_:=Aside0.mk (hp_); have n1_:=Aside0.mk ((by rw [hw]; exact zag (HB.out) GB23.out:Below w.heap.size w w26)); clear HO_5; clear HB; have HO_5:=n0_; have HB:=n1_; clear n0_ n1_; clear hg hw hp_))
              go_roundg k3
              case measure=>have:=HK1.out; have:=HK2.out; have:=HK3.out; omega
              case rel=>exact ⟨(y283),(wrap64 (Int.tdiv (wrap64 (x7_3+(rd x5_3 x9_3))) 10000)),(wrap64 (x9_3+1)),(by first|rfl|(simp; done)|(simp [*]; done)),(by first|rfl|(simp; done)|(simp [*]; done)),H',⟨by have:=HK1.out; have:=HK2.out; have:=HK3.out; omega⟩,⟨by (with_reducible repeat (first|apply Kd.R_alloc|apply Kd.R_drewN|apply Kd.R_drew)); exact HO_5.out⟩,⟨by repeat (first|(with_reducible first|exact HB.out|apply zaa|apply zab|apply zae)|exact HB.out)⟩⟩
             ·rw [if_neg c22] at H
              exact absurd H (by simp)
            ·rw [if_neg c21] at H
             exact absurd H (by simp)
           ·rw [if_neg c20] at H
            have c20b0:decide (0<x7_3)=false:=decide_eq_false c20
            clear c20
            have H':=Aside0.mk H
            clear H
            go_wp2
            go_roundg k3
            case measure=>have:=HK1.out; have:=HK2.out; have:=HK3.out; omega
            case rel=>exact ⟨(x5_3),(wrap64 (x6_1+1)),(by first|rfl|(simp; done)|(simp [*]; done)),H',⟨by have:=HK1.out; have:=HK2.out; have:=HK3.out; omega⟩,⟨by (with_reducible repeat (first|apply Kd.R_alloc|apply Kd.R_drewN|apply Kd.R_drew)); exact HO_5.out⟩,⟨by repeat (first|(with_reducible first|exact HB.out|apply zaa|apply zab|apply zae)|exact HB.out)⟩⟩
     ·rw [if_neg c8] at H
      have c8b0:decide (x6_1<(l0.length:Int))=false:=decide_eq_false c8
      clear c8
      replace H:=Option.bind_eq_some_iff.mp H
      obtain ⟨t275,A270,H⟩:=H
      replace H:(some t275)=some r:=H
      have A27:=Aside0.mk A270
      clear A270
      obtain rfl:=Option.some.inj H
      obtain ⟨Ao28,co28,eo28⟩:=Kd.R_slice HO_5.out
      subst eo28
      go_wp2_with (first|(go_at_call 208; (with_reducible refine (c1_trim.calls k1 (fun k_=>some k_=(.slice Ao28 x5_1.length co28:Value).ownBlock) _ _ x5_1 t275 _ ?side1 A27.out).mono ?_); (case side1=>exact Kd.R_V (Kd.R_tight rfl (HO_5.out))); rintro e w29 ⟨v276,rfl,ho0,hb⟩; have n0_:=Aside0.mk (Kd.R_below (by (with_reducible repeat (first|apply Kd.R_alloc|apply Kd.R_drewN|apply Kd.R_drew)); exact HO_5.out) hb); have n1_:=Aside0.mk (Kd.V_lower (Kd.V_mono (ok':=fun k_=>(w.heap.size≤k_)) ho0 (fun k_ hk_=>Or.elim hk_ (fun hs_=>((HO_5.out).1 k_ hs_.symm)) (fun hn_=>(Nat.le_trans (zar (by repeat (first|(with_reducible first|exact HB.out|apply zaa|apply zab|apply zae)|exact HB.out))) hn_)))) (zar (by repeat (first|(with_reducible first|exact HB.out|apply zaa|apply zab|apply zae)|exact HB.out)))); have n2_:=Aside0.mk (zam (by repeat (first|(with_reducible first|exact HB.out|apply zaa|apply zab|apply zae)|exact HB.out)) hb); clear HO_5; clear HB; have HO_5:=n0_; have HO277:=n1_; have HB:=n2_; clear n0_ n1_ n2_; (try clear hb); (try clear hb2); (try clear hk); (try clear hi); (try clear ho0)))
      go_ret
      exact ⟨_,by first|rfl|(simp [zai,zah]<;>rfl)|(simp only [←hji3]; first|rfl|(simp [zai,zah]<;>rfl))|(simp [*,zai,zah]<;>rfl),by (with_reducible repeat (first|apply Kd.V_alloc|apply Kd.V_drewN|apply Kd.V_drew)); exact HO277.out,by repeat (first|(with_reducible first|exact HB.out|apply zaa|apply zab|apply zae)|exact HB.out)⟩
  ·rw [if_neg c5] at H
   exact absurd H (by simp)
 ·rw [if_neg c4] at H
  exact absurd H (by simp)
def c1_Times.f (k:Nat) (a0:ByteArray) (a1:ByteArray):Option (ByteArray):=(c1_limbs.f k a0).bind fun t331=>((c1_limbs.f k a1).bind fun t334=>((c1_times.f k t331 t334).bind fun t337=>((c1_text.f t337).bind fun t340=>(some t340))))
end Go.Proofs.ZP
end
section
namespace Go.Proofs.ZP
open Go.RowKit Go.Proofs.ZW.Wa
theorem lv_take_succ (xs:List Int) {i:Nat} (h:i<xs.length):lv (xs.take (i+1))=lv (xs.take i)+10000^i*rd xs (i:Int):=by
 rw [List.take_succ_eq_append_getElem h,zcu,List.length_take,Nat.min_eq_left (by omega),rd_lt h]
 simp [lv]
theorem zch (i:Nat):(0:Int)<10000^i:=Int.pow_pos (by decide)
theorem pow4_lt {i j:Nat} (h:(10000:Int)^i<10000^j):i<j:=by
 apply Classical.byContradiction
 intro hn
 have h1:(10000:Nat)^j≤10000^i:=Nat.pow_le_pow_right (by decide) (by omega)
 have h2:((10000^j:Nat):Int)≤((10000^i:Nat):Int):=Int.ofNat_le.2 h1
 rw [Int.natCast_pow,Int.natCast_pow] at h2
 have h3:((10000:Nat):Int)^i<((10000:Nat):Int)^j:=h
 omega
theorem prod_lt {xs ys:List Int} (hx:Ld xs) (hy:Ld ys) (i:Nat) (hi:i≤xs.length):lv (xs.take i)*lv ys<10000^(xs.length+ys.length):=by
 have h1:=lv_lt (hx.take i)
 have h2:=lv_lt hy
 have h3:=zaW (hx.take i)
 have h4:=zaW hy
 rw [List.length_take,Nat.min_eq_left hi] at h1
 have h5:(10000:Int)^i≤10000^xs.length:=by
  have h6:(10000:Nat)^i≤10000^xs.length:=Nat.pow_le_pow_right (by decide) hi
  have h7:=Int.ofNat_le.2 h6
  rw [Int.natCast_pow,Int.natCast_pow] at h7
  exact h7
 rw [Int.pow_add]
 have h8:=zch xs.length
 have h9:=zch ys.length
 calc lv (xs.take i)*lv ys≤lv (xs.take i)*10000^ys.length:=Int.mul_le_mul_of_nonneg_left (Int.le_of_lt h2) h3
  _<10000^xs.length*10000^ys.length:=Int.mul_lt_mul_of_pos_right (by omega) h9
theorem times_alg (L P s q o x y D:Int):L+P*(s-o)+P*10000*q+P*10000*(x*D)=L+P*(s+10000*q-o-x*y)+P*(x*(y+10000*D)):=by grind
theorem l1_step (k:Nat) (xs ys out:List Int) (i j:Nat) (c:Int) (h1:j<ys.length) (h2:i+j<out.length) (h3:i<xs.length) (hs:out.length≤1099511627776) (hc:0≤c∧c<10000) (ho:0≤rd out ((i+j:Nat):Int)∧rd out ((i+j:Nat):Int)<10000) (hM:0≤rd xs (i:Int)*rd ys (j:Int)∧rd xs (i:Int)*rd ys (j:Int)≤9999*9999) :
  c1_times.l1 (k+1) xs ys out (i:Int) c (j:Int)=c1_times.l1 k xs ys (out.set (i+j) ((c+rd out ((i+j:Nat):Int)+rd xs (i:Int)*rd ys (j:Int))%10000)) (i:Int) ((c+rd out ((i+j:Nat):Int)+rd xs (i:Int)*rd ys (j:Int))/10000) ((j+1:Nat):Int):=by
 have eij:wrap64 ((i:Int)+(j:Int))=((i+j:Nat):Int):=by rw [w64' (by omega) (by omega)]; rfl
 have g1:(j:Int)<(ys.length:Int):=Int.ofNat_lt.2 h1
 have g2:(0:Int)≤((i+j:Nat):Int):=Int.natCast_nonneg _
 have g3:((i+j:Nat):Int)<(out.length:Int):=Int.ofNat_lt.2 h2
 have g4:(0:Int)≤(i:Int):=Int.natCast_nonneg _
 have g5:(i:Int)<(xs.length:Int):=Int.ofNat_lt.2 h3
 have g6:(0:Int)≤(j:Int):=Int.natCast_nonneg _
 have e7:wrap64 ((j:Int)+1)=((j+1:Nat):Int):=by rw [w64' (by omega) (by omega)]; rfl
 rw [c1_times.l1,if_pos g1,eij,if_pos g2,if_pos g3,if_pos g4,if_pos g5,if_pos g6,Int.toNat_natCast,e7]
 clear g1 g2 g3 g4 g5 g6 e7 eij h1 h2 h3 hs
 generalize rd xs (i:Int)*rd ys (j:Int)=M at *
 generalize rd out ((i+j:Nat):Int)=o at *
 have e1:wrap64 M=M:=w64' (by omega) (by omega)
 have e2:wrap64 (c+o)=c+o:=w64' (by omega) (by omega)
 have e3:wrap64 (c+o+M)=c+o+M:=w64' (by omega) (by omega)
 have e4:(c+o+M).tmod 10000=(c+o+M)%10000:=Int.tmod_eq_emod_of_nonneg (by omega)
 have e5:(c+o+M).tdiv 10000=(c+o+M)/10000:=Int.tdiv_eq_ediv_of_nonneg (by omega)
 have e6:wrap64 ((c+o+M)/10000)=(c+o+M)/10000:=w64' (by omega) (by omega)
 rw [e1,e2,e3,e4,e5,e6]
section
variable (xs ys:List Int) (hx:Ld xs) (hy:Ld ys) (hl:xs.length+ys.length≤1099511627776)
include hx hy hl
theorem times_l2 (i:Nat) (hi:i<xs.length) (r:List Int) (hr:∀ out,Ld out→out.length=xs.length+ys.length→lv out=lv (xs.take (i+1))*lv ys→Ev (fun k=>c1_times.l0 k xs ys out ((i+1:Nat):Int)) r) :
  ∀ (d kk:Nat) (out:List Int) (c:Int),Ld out→out.length=xs.length+ys.length→0≤c→c<10000→kk≤xs.length+ys.length→kk+d=xs.length+ys.length+1→lv out+10000^kk*c=lv (xs.take (i+1))*lv ys →
   Ev (fun k=>c1_times.l2 k xs ys out (i:Int) c (kk:Int)) r:=by
 intro d
 induction d with
 | zero=>intro kk out c _ _ _ _ h1 h2; omega
 | succ d ih =>
  intro kk out c hod hol hc0 hc1 hkk hd hv
  by_cases hc:0<c
  ·have hlt:=prod_lt hx hy (i+1) (by omega)
   have ho:=zaW hod
   have hp:=zch kk
   have h1:(10000:Int)^kk*1≤10000^kk*c:=Int.mul_le_mul_of_nonneg_left (by omega) (by omega)
   have hk:kk<xs.length+ys.length:=pow4_lt (by omega)
   have hrd:=hod.rd (kk:Int)
   have hs:=ih (kk+1) (out.set kk ((c+rd out (kk:Int))%10000)) ((c+rd out (kk:Int))/10000) (hod.set _ (by omega) (by omega)) (by rw [List.length_set]; exact hol) (by omega) (by omega) (by omega) (by omega) (by
    rw [lv_set _ (by omega),←hv,Int.pow_succ]
    have e:=Int.emod_add_mul_ediv (c+rd out (kk:Int)) 10000
    generalize (c+rd out (kk:Int))%10000=s at *
    generalize (c+rd out (kk:Int))/10000=q at *
    have e2:c=s+10000*q-rd out (kk:Int):=by omega
    rw [e2]; grind)
   refine Ev.step (fun k => ?_) hs
   simp only [c1_times.l2]
   rw [if_pos (by omega),if_pos (by omega),if_pos (by omega),w64' (x:=c+rd out (kk:Int)) (by omega) (by omega),Int.tmod_eq_emod_of_nonneg (by omega),Int.tdiv_eq_ediv_of_nonneg (by omega),w64' (by omega) (by omega),w64' (by omega) (by omega),Int.toNat_natCast]
   rfl
  ·have:c=0:=by omega
   subst this
   rw [Int.mul_zero,Int.add_zero] at hv
   refine Ev.step (fun k => ?_) (hr out hod hol hv)
   simp only [c1_times.l2]
   rw [if_neg (by omega),w64' (by omega) (by omega)]
   rfl
theorem times_l1 (i:Nat) (hi:i<xs.length) (r:List Int) (hr:∀ out,Ld out→out.length=xs.length+ys.length→lv out=lv (xs.take (i+1))*lv ys→Ev (fun k=>c1_times.l0 k xs ys out ((i+1:Nat):Int)) r) :
  ∀ (d j:Nat) (out:List Int) (c:Int),Ld out→out.length=xs.length+ys.length→0≤c→c<10000→j+d=ys.length→lv out+10000^(i+j)*c+10000^(i+j)*(rd xs (i:Int)*lv (ys.drop j))=lv (xs.take (i+1))*lv ys →
   Ev (fun k=>c1_times.l1 k xs ys out (i:Int) c (j:Int)) r:=by
 intro d
 induction d with
 | zero =>
  intro j out c hod hol hc0 hc1 hd hv
  have hj:j=ys.length:=by omega
  subst hj
  rw [List.drop_length,show lv []=0 from rfl,Int.mul_zero,Int.mul_zero,Int.add_zero] at hv
  refine Ev.step (fun k => ?_) (times_l2 xs ys hx hy hl i hi r hr (xs.length+ys.length+1-(i+ys.length)) (i+ys.length) out c hod hol hc0 hc1 (by omega) (by omega) hv)
  simp only [c1_times.l1]
  rw [if_neg (by omega),w64' (by omega) (by omega)]
  rfl
 | succ d ih =>
  intro j out c hod hol hc0 hc1 hd hv
  have hj:j<ys.length:=by omega
  have hrd:=hod.rd ((i+j:Nat):Int)
  have hxi:=hx.rd (i:Int)
  have hyj:=hy.rd (j:Int)
  have hm0:0≤rd xs (i:Int)*rd ys (j:Int):=Int.mul_nonneg hxi.1 hyj.1
  have hm1:rd xs (i:Int)*rd ys (j:Int)≤9999*9999:=by
   calc rd xs (i:Int)*rd ys (j:Int)≤rd xs (i:Int)*9999:=Int.mul_le_mul_of_nonneg_left (by omega) hxi.1
    _≤9999*9999:=Int.mul_le_mul_of_nonneg_right (by omega) (by decide)
  have dy:=lv_drop ys j
  rw [show rz ys j=rd ys (j:Int) from if_pos hj] at dy
  have hs:=ih (j+1) (out.set (i+j) ((c+rd out ((i+j:Nat):Int)+rd xs (i:Int)*rd ys (j:Int))%10000)) ((c+rd out ((i+j:Nat):Int)+rd xs (i:Int)*rd ys (j:Int))/10000) (hod.set _ (by omega) (by omega)) (by rw [List.length_set]; exact hol) (by omega) (by omega) (by omega) (by
   rw [lv_set _ (by omega),←hv,show i+(j+1)=(i+j)+1 by omega,Int.pow_succ,dy]
   have e:=Int.emod_add_mul_ediv (c+rd out ((i+j:Nat):Int)+rd xs (i:Int)*rd ys (j:Int)) 10000
   generalize (c+rd out ((i+j:Nat):Int)+rd xs (i:Int)*rd ys (j:Int))%10000=s at *
   generalize (c+rd out ((i+j:Nat):Int)+rd xs (i:Int)*rd ys (j:Int))/10000=q at *
   generalize rd out ((i+j:Nat):Int)=o at *
   generalize rd xs (i:Int)=x at *
   generalize rd ys (j:Int)=y at *
   have e2:c=s+10000*q-o-x*y:=by omega
   rw [e2]; exact times_alg _ _ _ _ _ _ _ _)
  have eij:wrap64 ((i:Int)+(j:Int))=((i+j:Nat):Int):=by rw [w64' (by omega) (by omega)]; rfl
  refine Ev.step (fun k => ?_) hs
  exact l1_step k xs ys out i j c hj (by rw [hol]; exact Nat.add_lt_add hi hj) hi (by rw [hol]; exact hl) ⟨hc0,hc1⟩ hrd ⟨hm0,hm1⟩
theorem times_l0:∀ (d i:Nat) (out:List Int),Ld out→out.length=xs.length+ys.length→i+d=xs.length→lv out=lv (xs.take i)*lv ys →
  Ev (fun k=>c1_times.l0 k xs ys out (i:Int)) (lim (lv xs*lv ys).toNat):=by
 intro d
 induction d with
 | zero =>
  intro i out hod hol hd hv
  have hi:i=xs.length:=by omega
  subst hi
  rw [List.take_length] at hv
  have ht:=trim_ev out.length out rfl (by omega) hod
  rw [hv] at ht
  refine Ev.step (f:=fun k=>(c1_trim.f k out).bind fun t275=>(some t275)) (fun k => ?_) (Ev.bind ht (Ev.now _))
  simp only [c1_times.l0]
  rw [if_neg (by omega)]
 | succ d ih =>
  intro i out hod hol hd hv
  have hi:i<xs.length:=by omega
  refine Ev.step (fun k => ?_) (times_l1 xs ys hx hy hl i hi _ (fun out' h1 h2 h3=>ih (i+1) out' h1 h2 (by omega) h3) ys.length 0 out 0 hod hol (by decide) (by decide) (by omega) ?_)
  ·simp only [c1_times.l0]
   rw [if_pos (by omega)]
   rfl
  ·rw [hv,lv_take_succ xs hi,Nat.add_zero,List.drop_zero,Int.mul_zero,Int.add_zero]
   grind
theorem times_spec:Ev (fun k=>c1_times.f k xs ys) (lim (lv xs*lv ys).toNat):=by
 have h:=times_l0 xs ys hx hy hl xs.length 0 (List.replicate (xs.length+ys.length) 0) (Ld.zeros _) (by simp) (by omega) (by rw [lv_zeros,List.take_zero]; simp [lv])
 refine Ev.congr (fun k => ?_) h
 unfold c1_times.f
 have e:wrap64 ((xs.length:Int)+(ys.length:Int))=((xs.length+ys.length:Nat):Int):=by rw [w64' (by omega) (by omega)]; rfl
 rw [e,if_pos (by omega),Int.toNat_natCast,if_pos (by omega)]
 rfl
end
end Go.Proofs.ZP
end
section
namespace Go.Proofs.ZQ
open Go.RowKit Go.Proofs.ZW.Wa Go.Proofs.ZP
def c1_Right.f (a0:ByteArray):Option Bool:=some (rightB a0)
theorem c1_Right.calls (a0:ByteArray) (r:Bool) (w:World) (h:c1_Right.f a0=some r) :
  Calls Tryz.prog 94 #[.string a0] w fun e w'=>e = .returned (.bool r)∧Below w.heap.size w w':=by
 obtain rfl:=Option.some.inj h
 obtain ⟨k,hk⟩:=(ref_right_ev a0).rounds
 exact (ZP.c1_Right.calls k a0 _ w hk).mono fun e w' ⟨he,hd⟩=>⟨he,zbW hd⟩
def c1_Of.f (a0:Int):Option ByteArray:=if 0≤a0∧a0<18446744073709551616 then some (T a0.toNat) else none
def numT (s:ByteArray):Option Nat:=if ZP.Can s.data.toList∧s.size≤137438953472 then some (dval s.data.toList) else none
theorem numT_T {n:Nat} (h:(T n).size≤137438953472):numT (T n)=some n:=by unfold numT; rw [if_pos ⟨T_can n,h⟩,zbX]
theorem numT_some {s:ByteArray} {n:Nat} (h:numT s=some n):s=T n∧(T n).size≤137438953472:=by
 unfold numT at h
 split at h
 ·rename_i hc
  obtain rfl:=Option.some.inj h
  exact ⟨can_T hc.1,by rw [←can_T hc.1]; exact hc.2⟩
 ·cases h
theorem T_lt_self (n:Nat):n<10^(T n).size:=(zaw (za7 n)).1 (Nat.le_refl _)
theorem T_size_mul (a b:Nat):(T (a*b)).size≤(T a).size+(T b).size:=by
 have h1:=T_lt_self a
 have h2:=T_lt_self b
 refine (zaw (by have:=za7 a; omega)).2 ?_
 rw [Nat.pow_add]
 exact Nat.mul_lt_mul'' h1 h2
theorem zcN {a b:Nat} (h:a≤b):(T a).size≤(T b).size:=by rw [zdc,zdc]; exact zck h
def c1_Plus.f (a0 a1:ByteArray):Option ByteArray:=(numT a0).bind fun x=>(numT a1).bind fun y=>some (T (x+y))
theorem Plus_T {a b:Nat} (ha:(T a).size≤137438953472) (hb:(T b).size≤137438953472):c1_Plus.f (T a) (T b)=some (T (a+b)):=by
 unfold c1_Plus.f
 rw [numT_T ha,numT_T hb]; rfl
def c1_Times.f (a0 a1:ByteArray):Option ByteArray:=(numT a0).bind fun x=>(numT a1).bind fun y=>some (T (x*y))
theorem Times_T {a b:Nat} (ha:(T a).size≤137438953472) (hb:(T b).size≤137438953472):c1_Times.f (T a) (T b)=some (T (a*b)):=by
 unfold c1_Times.f
 rw [numT_T ha,numT_T hb]; rfl
def cmpN (x y:Nat):Int:=if x<y then -1 else if y<x then 1 else 0
def c1_Compare.f (a0 a1:ByteArray):Option Int:=(numT a0).bind fun x=>(numT a1).bind fun y=>some (cmpN x y)
theorem Compare_T {a b:Nat} (ha:(T a).size≤137438953472) (hb:(T b).size≤137438953472):c1_Compare.f (T a) (T b)=some (cmpN a b):=by
 unfold c1_Compare.f
 rw [numT_T ha,numT_T hb]; rfl
end Go.Proofs.ZQ
end
section
namespace Go.Proofs.ZP
open Go.RowKit Go.Proofs.ZW.Wa Go.Proofs.ZW.Wb Go.Proofs.ZW.Wc
attribute [local go_sem] zaM zaK zaZ zaY zaC zaB zaL zaJ
def c1_Power.l0:Nat→ByteArray→Int→ByteArray→Option (ByteArray)
 | 0,_,_,_=>none
 | k+1,x0,x1,x5=>if x1>0 then (if (Int.tmod x1 2)=1 then ((c1_Times.f k x5 x0).bind fun t383=>(if (wrap64 (Int.tdiv x1 2))>0 then ((c1_Times.f k x0 x0).bind fun t384=>(c1_Power.l0 k t384 (wrap64 (Int.tdiv x1 2)) t383)) else (c1_Power.l0 k x0 (wrap64 (Int.tdiv x1 2)) t383))) else (if (wrap64 (Int.tdiv x1 2))>0 then ((c1_Times.f k x0 x0).bind fun t385=>(c1_Power.l0 k t385 (wrap64 (Int.tdiv x1 2)) x5)) else (c1_Power.l0 k x0 (wrap64 (Int.tdiv x1 2)) x5))) else (some x5)
def c1_Power.f (k:Nat) (a0:ByteArray) (a1:Int):Option (ByteArray):=c1_Power.l0 k a0 a1 (⟨#[49]⟩:ByteArray)
end Go.Proofs.ZP
end
section
namespace Go.Proofs.ZQ
open Go.RowKit Go.Proofs.ZW.Wa Go.Proofs.ZP
def c1_Power.f (a0:ByteArray) (a1:Int):Option ByteArray:=(numT a0).bind fun x=>if 0≤a1∧a1≤1000000000∧4*(T x).size*a1.toNat+1≤137438953472 then some (T (x^a1.toNat)) else none
end Go.Proofs.ZQ
end
section
namespace Go.Proofs.ZP
open Go.RowKit Go.Proofs.ZW.Wa Go.Proofs.ZW.Wb Go.Proofs.ZW.Wc
attribute [local go_sem] zaM zaK zaZ zaY zaC zaB zaL zaJ
def c1_less.l0:Nat→List Int→List Int→Int→Option (Bool)
 | 0,_,_,_=>none
 | k+1,x0,x1,x5=>if x5≥0 then (if 0≤x5 then (if x5<(x0.length:Int) then (if x5<(x1.length:Int) then (if (rd x0 x5)=(rd x1 x5) then (c1_less.l0 k x0 x1 (wrap64 (x5-1))) else (some (decide ((rd x0 x5)<(rd x1 x5))))) else (none)) else (none)) else (none)) else (some false)
def c1_less.f (k:Nat) (l0:List Int) (l1:List Int):Option (Bool):=if (l0.length:Int)=(l1.length:Int) then (c1_less.l0 k l0 l1 (wrap64 ((l0.length:Int)-1))) else (some (decide ((l0.length:Int)<(l1.length:Int))))
theorem c1_less.calls (k : Nat) (A0 : Option Addr) (c0 : Nat) (l0 : List Int) (A1 : Option Addr) (c1 : Nat) (l1 : List Int) (r : Bool) (w : World) (hr0 : Kd.C (Kd.int .i64) w A0 l0.length l0) (hc0 : l0.length ≤ c0) (hr1 : Kd.C (Kd.int .i64) w A1 l1.length l1) (hc1 : l1.length ≤ c1) (h : c1_less.f k l0 l1 = some r) :
  Calls Tryz.prog 204 #[.slice A0 l0.length c0,.slice A1 l1.length c1] w fun e w'=>e = .returned (.bool r)∧Drawn0 w w':=by
 have HR0:=Aside0.mk hr0
 have HC0:=Aside0.mk hc0
 clear hr0 hc0
 have HR1:=Aside0.mk hr1
 have HC1:=Aside0.mk hc1
 clear hr1 hc1
 have H:(if (l0.length:Int)=(l1.length:Int) then (c1_less.l0 k l0 l1 (wrap64 ((l0.length:Int)-1))) else (some (decide ((l0.length:Int)<(l1.length:Int)))))=some r:=h
 clear h
 by_cases c3:(l0.length:Int)=(l1.length:Int)
 ·rw [if_pos c3] at H
  have c3b0:((l0.length:Int) == (l1.length:Int))=true:=beq_iff_eq.mpr c3
  have c3b1:((l0.length:Int) != (l1.length:Int))=false:=bne_eq_false_iff_eq.mpr c3
  have c3b2:(l0.length == l1.length)=true:=by first|simpa using c3|(simp at c3 ⊢; omega)
  clear c3
  have H':=Aside0.mk H
  clear H
  go_enter Tryz.func204,Tryz.ntmps204
  go_wp2
  repeat (go_quiet (fail); try go_wp2)
  go_loopg [5] k (fun kq v5 w'=>∃ (x5_1:Int),v5 = .int .i64 x5_1∧Aside0 (c1_less.l0 kq l0 l1 x5_1=some r)∧Aside0 (kq≤k)∧Drawn0 w w')
  case atStart=>exact ⟨(wrap64 ((l0.length:Int)-1)),(by first|rfl|(simp; done)|(simp [*]; done)),H',⟨Nat.le_refl _⟩,by repeat (first|exact Drawn0.refl _|apply Drawn0.step)⟩
  case round =>
   clear H'
   try clear c1
   try clear c2
   try clear p2
   try clear c3
   try clear c3b0
   try clear c3b1
   try clear c3b2
   obtain ⟨x5_1,rfl,HA,HK1,⟨m1,rfl⟩⟩:=hrel
   cases gk with
   | zero=>exact absurd HA.out (by simp [c1_less.l0])
   | succ k1 =>
    have H:=HA.out
    clear HA
    simp only [c1_less.l0] at H
    by_cases c4:x5_1≥0
    ·rw [if_pos c4] at H
     have c4b0:decide (0≤x5_1)=true:=decide_eq_true c4
     clear c4
     by_cases c5:0≤x5_1
     ·rw [if_pos c5] at H
      have c5b0:decide (0≤x5_1)=true:=decide_eq_true c5
      clear c5
      by_cases c6:x5_1<(l0.length:Int)
      ·rw [if_pos c6] at H
       have c6b0:decide (x5_1<(l0.length:Int))=true:=decide_eq_true c6
       clear c6
       by_cases c7:x5_1<(l1.length:Int)
       ·rw [if_pos c7] at H
        have c7b0:decide (x5_1<(l1.length:Int))=true:=decide_eq_true c7
        clear c7
        by_cases c8:(rd l0 x5_1)=(rd l1 x5_1)
        ·rw [if_pos c8] at H
         have c8b0:((rd l0 x5_1) == (rd l1 x5_1))=true:=beq_iff_eq.mpr c8
         have c8b1:((rd l0 x5_1) != (rd l1 x5_1))=false:=bne_eq_false_iff_eq.mpr c8
         clear c8
         have H':=Aside0.mk H
         clear H
         have p268:0≤(x5_1:Int):=of_decide_eq_true (by first|(with_reducible assumption)|assumption)
         have q268:x5_1<(l0.length:Int):=of_decide_eq_true (by first|(with_reducible assumption)|assumption)
         obtain ⟨ad268,e268,hx268_0⟩:=Kd.at_int HR0.out x5_1 p268 q268
         cases e268
         replace p268:=eq_true p268
         replace q268:=eq_true q268
         have p269:0≤(x5_1:Int):=of_decide_eq_true (by first|(with_reducible assumption)|assumption)
         have q269:x5_1<(l1.length:Int):=of_decide_eq_true (by first|(with_reducible assumption)|assumption)
         obtain ⟨ad269,e269,hx269_0⟩:=Kd.at_int HR1.out x5_1 p269 q269
         cases e269
         replace p269:=eq_true p269
         replace q269:=eq_true q269
         go_wp2
         repeat (go_quiet (fail); try go_wp2)
         go_roundg k1
         case measure=>have:=HK1.out; omega
         case rel=>exact ⟨(wrap64 (x5_1-1)),(by first|rfl|(simp; done)|(simp [*]; done)),H',⟨by have:=HK1.out; omega⟩,by repeat (first|exact Drawn0.refl _|apply Drawn0.step)⟩
        ·rw [if_neg c8] at H
         have c8b0:((rd l0 x5_1) == (rd l1 x5_1))=false:=beq_eq_false_iff_ne.mpr c8
         have c8b1:((rd l0 x5_1) != (rd l1 x5_1))=true:=bne_iff_ne.mpr c8
         obtain rfl:=Option.some.inj H
         have p268:0≤(x5_1:Int):=of_decide_eq_true (by first|(with_reducible assumption)|assumption)
         have q268:x5_1<(l0.length:Int):=of_decide_eq_true (by first|(with_reducible assumption)|assumption)
         obtain ⟨ad268,e268,hx268_0⟩:=Kd.at_int HR0.out x5_1 p268 q268
         cases e268
         replace p268:=eq_true p268
         replace q268:=eq_true q268
         have p269:0≤(x5_1:Int):=of_decide_eq_true (by first|(with_reducible assumption)|assumption)
         have q269:x5_1<(l1.length:Int):=of_decide_eq_true (by first|(with_reducible assumption)|assumption)
         obtain ⟨ad269,e269,hx269_0⟩:=Kd.at_int HR1.out x5_1 p269 q269
         cases e269
         replace p269:=eq_true p269
         replace q269:=eq_true q269
         have p270:0≤(x5_1:Int):=of_decide_eq_true (by first|(with_reducible assumption)|assumption)
         have q270:x5_1<(l0.length:Int):=of_decide_eq_true (by first|(with_reducible assumption)|assumption)
         obtain ⟨ad270,e270,hx270_0⟩:=Kd.at_int HR0.out x5_1 p270 q270
         obtain rfl:ad268=ad270:=(by injection e270)
         replace p270:=eq_true p270
         replace q270:=eq_true q270
         have p271:0≤(x5_1:Int):=of_decide_eq_true (by first|(with_reducible assumption)|assumption)
         have q271:x5_1<(l1.length:Int):=of_decide_eq_true (by first|(with_reducible assumption)|assumption)
         obtain ⟨ad271,e271,hx271_0⟩:=Kd.at_int HR1.out x5_1 p271 q271
         obtain rfl:ad269=ad271:=(by injection e271)
         replace p271:=eq_true p271
         replace q271:=eq_true q271
         go_wp2
         repeat (go_quiet (fail); try go_wp2)
         go_ret
         exact ⟨by first|rfl|(simp; done)|(simp [*]; done),by repeat (first|exact Drawn0.refl _|apply Drawn0.step)⟩
       ·rw [if_neg c7] at H
        exact absurd H (by simp)
      ·rw [if_neg c6] at H
       exact absurd H (by simp)
     ·rw [if_neg c5] at H
      exact absurd H (by simp)
    ·rw [if_neg c4] at H
     have c4b0:decide (0≤x5_1)=false:=decide_eq_false c4
     clear c4
     obtain rfl:=Option.some.inj H
     go_wp2
     repeat (go_quiet (fail); try go_wp2)
     go_ret
     exact ⟨by first|rfl|(simp; done)|(simp [*]; done),by repeat (first|exact Drawn0.refl _|apply Drawn0.step)⟩
 ·rw [if_neg c3] at H
  have c3b0:((l0.length:Int) == (l1.length:Int))=false:=beq_eq_false_iff_ne.mpr c3
  have c3b1:((l0.length:Int) != (l1.length:Int))=true:=bne_iff_ne.mpr c3
  have c3b2:(l0.length == l1.length)=false:=by first|simpa using c3|(simp at c3 ⊢; omega)
  obtain rfl:=Option.some.inj H
  go_enter Tryz.func204,Tryz.ntmps204
  go_wp2
  repeat (go_quiet (fail); try go_wp2)
  go_ret
  exact ⟨by first|rfl|(simp; done)|(simp [*]; done),by repeat (first|exact Drawn0.refl _|apply Drawn0.step)⟩
end Go.Proofs.ZP
end
section
namespace Go.Proofs.ZP
open Go.RowKit Go.Proofs.ZW.Wa
theorem lv_top {xs:List Int} (h:Ld xs) (ht:xs.getLast? ≠ some 0) (hn:xs ≠ []):(10000:Int)^(xs.length-1)≤lv xs:=by
 obtain ⟨ys,y,rfl⟩:∃ ys y,xs=ys ++ [y]:=⟨xs.dropLast,xs.getLast hn,(List.dropLast_concat_getLast hn).symm⟩
 have hy:y≠0:=by simpa using ht
 have h1:=h y (by simp)
 have h2:=zaW (fun u hu=>h u (List.mem_append_left _ hu):Ld ys)
 rw [lv_snoc]
 simp only [List.length_append,List.length_singleton,Nat.add_sub_cancel]
 have h3:(10000:Int)^ys.length*1≤10000^ys.length*y:=Int.mul_le_mul_of_nonneg_left (by omega) (Int.le_of_lt (zch _))
 omega
theorem lv_len_lt {xs ys:List Int} (hx:Ld xs) (hy:Ld ys) (ht:ys.getLast? ≠ some 0) (h:xs.length<ys.length):lv xs<lv ys:=by
 have h1:=lv_lt hx
 have h2:=lv_top hy ht (by intro e; rw [e] at h; simp at h)
 have h3:(10000:Int)^xs.length≤10000^(ys.length-1):=by
  have h6:(10000:Nat)^xs.length≤10000^(ys.length-1):=Nat.pow_le_pow_right (by decide) (by omega)
  have h7:=Int.ofNat_le.2 h6
  rw [Int.natCast_pow,Int.natCast_pow] at h7
  exact h7
 exact Int.lt_of_lt_of_le h1 (Int.le_trans h3 h2)
theorem lv_at (xs:List Int) {i:Nat} (h:i<xs.length):lv xs=lv (xs.take i)+10000^i*(rd xs (i:Int)+10000*lv (xs.drop (i+1))):=by
 have h1:=lv_take_drop xs i (by omega)
 have h2:=lv_drop xs i
 rw [show rz xs i=rd xs (i:Int) from if_pos h] at h2
 rw [h1,h2]
theorem cmp_at {L M P x y D:Int} (h0:0≤L) (h1:L<P) (h2:0≤M) (h3:M<P) (hlt:x<y):L+P*(x+10000*D)<M+P*(y+10000*D):=by
 have e:P*(x+1)≤P*y:=Int.mul_le_mul_of_nonneg_left (by omega) (by omega)
 rw [Int.mul_add,Int.mul_one] at e
 rw [Int.mul_add,Int.mul_add]
 generalize P*(10000*D)=Z
 omega
theorem less_loop (xs ys:List Int) (hx:Ld xs) (hy:Ld ys) (hl:xs.length=ys.length) (hm:xs.length≤1099511627776):∀ (i:Nat),i≤xs.length→xs.drop i=ys.drop i→Ev (fun k=>c1_less.l0 k xs ys ((i:Int)-1)) (decide (lv xs<lv ys)):=by
 intro i
 induction i with
 | zero =>
  intro _ hd
  rw [List.drop_zero,List.drop_zero] at hd
  rw [hd,decide_eq_false (Int.lt_irrefl _)]
  refine Ev.step (f:=fun _=>some false) (fun k => ?_) (Ev.now _)
  simp only [c1_less.l0]
  rw [if_neg (by omega)]
 | succ i ih =>
  intro hi hd
  have hix:i<xs.length:=by omega
  have hiy:i<ys.length:=by omega
  have e0:((i+1:Nat):Int)-1=(i:Int):=by omega
  rw [e0]
  by_cases he:rd xs (i:Int)=rd ys (i:Int)
  ·have hd2:xs.drop i=ys.drop i:=by
    rw [List.drop_eq_getElem_cons hix,List.drop_eq_getElem_cons hiy,hd]
    rw [rd_lt hix,rd_lt hiy] at he
    rw [he]
   refine Ev.step (fun k => ?_) (ih (by omega) hd2)
   simp only [c1_less.l0]
   rw [if_pos (by omega),if_pos (by omega),if_pos (by omega),if_pos (by omega),if_pos he,w64' (by omega) (by omega)]
  ·have a1:=lv_at xs hix
   have a2:=lv_at ys hiy
   have b1:=zaW (hx.take i)
   have b2:=zaW (hy.take i)
   have c1:=lv_lt (hx.take i)
   have c2:=lv_lt (hy.take i)
   rw [List.length_take,Nat.min_eq_left (by omega)] at c1 c2
   have hk:decide (lv xs<lv ys)=decide (rd xs (i:Int)<rd ys (i:Int)):=by
    refine decide_eq_decide.2 ?_
    rw [a1,a2,hd]
    constructor
    ·intro h
     apply Classical.byContradiction
     intro hn
     have:=cmp_at (D:=lv (ys.drop (i+1))) b2 c2 b1 c1 (show rd ys (i:Int)<rd xs (i:Int) by omega)
     exact Int.lt_irrefl _ (Int.lt_trans h this)
    ·intro h
     exact cmp_at b1 c1 b2 c2 h
   rw [hk]
   refine Ev.step (f:=fun _=>some (decide (rd xs (i:Int)<rd ys (i:Int)))) (fun k => ?_) (Ev.now _)
   simp only [c1_less.l0]
   rw [if_pos (Int.natCast_nonneg i),if_pos (Int.natCast_nonneg i),if_pos (Int.ofNat_lt.2 hix),if_pos (Int.ofNat_lt.2 hiy),if_neg he]
theorem less_ev (xs ys:List Int) (hx:Ld xs) (hy:Ld ys) (tx:xs.getLast? ≠ some 0) (ty:ys.getLast? ≠ some 0) (hm:xs.length≤1099511627776):Ev (fun k=>c1_less.f k xs ys) (decide (lv xs<lv ys)):=by
 unfold c1_less.f
 by_cases hl:(xs.length:Int)=(ys.length:Int)
 ·have h:=less_loop xs ys hx hy (by omega) hm xs.length (Nat.le_refl _) (by rw [List.drop_length,show xs.length=ys.length by omega,List.drop_length])
  refine Ev.congr (fun k => ?_) h
  rw [if_pos hl,w64' (by omega) (by omega)]
 ·have hk:decide (lv xs<lv ys)=decide ((xs.length:Int)<(ys.length:Int)):=by
   refine decide_eq_decide.2 ⟨fun h => ?_,fun h=>lv_len_lt hx hy ty (by omega)⟩
   apply Classical.byContradiction
   intro hn
   have:=lv_len_lt hy hx tx (by omega)
   exact Int.lt_irrefl _ (Int.lt_trans h this)
  rw [hk]
  exact Ev.congr (f:=fun _=>some (decide ((xs.length:Int)<(ys.length:Int)))) (fun k=>if_neg hl) (Ev.now _)
end Go.Proofs.ZP
end
section
namespace Go.Proofs.ZP
open Go.RowKit Go.Proofs.ZW.Wa Go.Proofs.ZW.Wb Go.Proofs.ZW.Wc
attribute [local go_sem] zaM zaK zaZ zaY zaC zaB zaL zaJ
def c1_fits.l0:Nat→List Int→List Int→Int→Int→Int→Option (Int)
 | 0,_,_,_,_,_=>none
 | k+1,x0,x1,x2,x7,x8=>if x7<x8 then ((c1_times.f k x1 (([wrap64 (Int.tdiv (wrap64 ((wrap64 (x7+x8))+1)) 2)]:List Int))).bind fun t287=>(if 0≤x2 then (if x2≤(x0.length:Int) then ((c1_trim.f k (x0.drop (x2:Int).toNat)).bind fun t291=>((c1_less.f k t291 t287).bind fun t294=>(if t294=true then (c1_fits.l0 k x0 x1 x2 x7 (wrap64 ((wrap64 (Int.tdiv (wrap64 ((wrap64 (x7+x8))+1)) 2))-1))) else (c1_fits.l0 k x0 x1 x2 (wrap64 (Int.tdiv (wrap64 ((wrap64 (x7+x8))+1)) 2)) x8)))) else (none)) else (none))) else (some x7)
def c1_fits.f (k:Nat) (l0:List Int) (l1:List Int) (a2:Int):Option (Int):=c1_fits.l0 k l0 l1 a2 0 9999
theorem c1_fits.calls (k:Nat) (A0:Option Addr) (c0:Nat) (l0:List Int) (A1:Option Addr) (c1:Nat) (l1:List Int) (a2:Int) (r:Int) (w:World) (hr0:Kd.C (Kd.int .i64) w A0 l0.length l0) (hc0:l0.length≤c0) (hr1:Kd.C (Kd.int .i64) w A1 l1.length l1) (hc1:l1.length≤c1) (h:c1_fits.f k l0 l1 a2=some r) :
  Calls Tryz.prog 205 #[.slice A0 l0.length c0,.slice A1 l1.length c1,.int .i64 a2] w fun e w'=>e = .returned (.int .i64 r)∧Below w.heap.size w w':=by
 have HR0:=Aside0.mk hr0
 have HC0:=Aside0.mk hc0
 clear hr0 hc0
 have HR1:=Aside0.mk hr1
 have HC1:=Aside0.mk hc1
 clear hr1 hc1
 have HB:=Aside0.mk (Below.refl w.heap.size w)
 have H:(c1_fits.l0 k l0 l1 a2 0 9999)=some r:=h
 clear h
 have H':=Aside0.mk H
 clear H
 go_enter Tryz.func205,Tryz.ntmps205
 go_wp2
 go_loopg [7,8] k (fun kq v7 v8 w'=>∃ (x7_1:Int) (x8_1:Int),v7 = .int .i64 x7_1∧v8 = .int .i64 x8_1∧Aside0 (c1_fits.l0 kq l0 l1 a2 x7_1 x8_1=some r)∧Aside0 (kq≤k)∧Aside0 (Below w.heap.size w w'))
 case atStart=>exact ⟨(0),(9999),(by first|rfl|(simp; done)|(simp [*]; done)),(by first|rfl|(simp; done)|(simp [*]; done)),H',⟨Nat.le_refl _⟩,⟨by repeat (first|(with_reducible first|exact HB.out|apply zaa|apply zab|apply zae)|exact HB.out)⟩⟩
 case round =>
  clear H'
  try clear c1
  try clear c2
  try clear p2
  obtain ⟨x7_1,x8_1,rfl,rfl,HA,HK1,HB⟩:=hrel
  cases gk with
  | zero=>exact absurd HA.out (by simp [c1_fits.l0])
  | succ k1 =>
   have H:=HA.out
   clear HA
   simp only [c1_fits.l0] at H
   by_cases c4:x7_1<x8_1
   ·rw [if_pos c4] at H
    have c4b0:decide (x7_1<x8_1)=true:=decide_eq_true c4
    clear c4
    obtain ⟨y284,hy284⟩:∃ y_:List Int,y_=(([wrap64 (Int.tdiv (wrap64 ((wrap64 (x7_1+x8_1))+1)) 2)]:List Int)):=⟨_,rfl⟩
    replace H:((c1_times.f k1 l1 y284).bind fun t287=>(if 0≤a2 then (if a2≤(l0.length:Int) then ((c1_trim.f k1 (l0.drop (a2:Int).toNat)).bind fun t291=>((c1_less.f k1 t291 t287).bind fun t294=>(if t294=true then (c1_fits.l0 k1 l0 l1 a2 x7_1 (wrap64 ((wrap64 (Int.tdiv (wrap64 ((wrap64 (x7_1+x8_1))+1)) 2))-1))) else (c1_fits.l0 k1 l0 l1 a2 (wrap64 (Int.tdiv (wrap64 ((wrap64 (x7_1+x8_1))+1)) 2)) x8_1)))) else (none)) else (none)))=some r:=by first|(rw [hy284]; with_reducible exact H)|(have H2_:=(Option.bind_some _ _).symm.trans H; rw [hy284]; with_reducible exact H2_)|(have H2_:=(Option.bind_some _ _).symm.trans H; with_reducible exact H2_)|with_reducible exact H|(rw [hy284]; exact H)|exact H
    have Ny284:=Aside0.mk hy284
    clear hy284
    replace H:=Option.bind_eq_some_iff.mp H
    obtain ⟨t287,A50,H⟩:=H
    replace H:(if 0≤a2 then (if a2≤(l0.length:Int) then ((c1_trim.f k1 (l0.drop (a2:Int).toNat)).bind fun t291=>((c1_less.f k1 t291 t287).bind fun t294=>(if t294=true then (c1_fits.l0 k1 l0 l1 a2 x7_1 (wrap64 ((wrap64 (Int.tdiv (wrap64 ((wrap64 (x7_1+x8_1))+1)) 2))-1))) else (c1_fits.l0 k1 l0 l1 a2 (wrap64 (Int.tdiv (wrap64 ((wrap64 (x7_1+x8_1))+1)) 2)) x8_1)))) else (none)) else (none))=some r:=H
    have A5:=Aside0.mk A50
    clear A50
    by_cases c6:0≤a2
    ·rw [if_pos c6] at H
     have c6b0:=eq_true c6
     have c6b1:decide (0≤a2)=true:=decide_eq_true c6
     clear c6
     by_cases c7:a2≤(l0.length:Int)
     ·rw [if_pos c7] at H
      have c7b0:=eq_true c7
      have c7b1:decide (a2≤(l0.length:Int))=true:=decide_eq_true c7
      clear c7
      replace H:=Option.bind_eq_some_iff.mp H
      obtain ⟨t291,A80,H⟩:=H
      replace H:((c1_less.f k1 t291 t287).bind fun t294=>(if t294=true then (c1_fits.l0 k1 l0 l1 a2 x7_1 (wrap64 ((wrap64 (Int.tdiv (wrap64 ((wrap64 (x7_1+x8_1))+1)) 2))-1))) else (c1_fits.l0 k1 l0 l1 a2 (wrap64 (Int.tdiv (wrap64 ((wrap64 (x7_1+x8_1))+1)) 2)) x8_1)))=some r:=H
      have A8:=Aside0.mk A80
      clear A80
      replace H:=Option.bind_eq_some_iff.mp H
      obtain ⟨t294,A90,H⟩:=H
      replace H:(if t294=true then (c1_fits.l0 k1 l0 l1 a2 x7_1 (wrap64 ((wrap64 (Int.tdiv (wrap64 ((wrap64 (x7_1+x8_1))+1)) 2))-1))) else (c1_fits.l0 k1 l0 l1 a2 (wrap64 (Int.tdiv (wrap64 ((wrap64 (x7_1+x8_1))+1)) 2)) x8_1))=some r:=H
      have A9:=Aside0.mk A90
      clear A90
      by_cases c10:t294=true
      ·subst c10
       have H1:(c1_fits.l0 k1 l0 l1 a2 x7_1 (wrap64 ((wrap64 (Int.tdiv (wrap64 ((wrap64 (x7_1+x8_1))+1)) 2))-1)))=some r:=by rw [if_pos rfl] at H; exact H
       clear H
       have H:=H1
       clear H1
       have H':=Aside0.mk H
       clear H
       go_wp2_with (first|((with_reducible refine za8 (N:=21) rfl ?_); refine Kd.R_lit (Kd.int .i64) _ 3 ?hg (N:=21) ?hd (xs:=([wrap64 (Int.tdiv (wrap64 ((wrap64 (x7_1+x8_1))+1)) 2)]:List Int)) (inner:=[.int .i64 (wrap64 (Int.tdiv (wrap64 ((wrap64 (x7_1+x8_1))+1)) 2))]) (ok:=fun _=>True) (okp:=fun _=>True) ?hr ?hp (fun _ hk=>hk) trivial (Below.refl _ _) (Nat.le_refl _) (by simp) ?_; (case hd=>rfl); (case hg=>rfl); (case hr=>first|(go_simp; done)|(go_simp; rfl)); (case hp=>exact (Reps.one (show Kd.M (Kd.int .i64) _ _ _ (wrap64 (Int.tdiv (wrap64 ((wrap64 (x7_1+x8_1))+1)) 2)) [.int .i64 (wrap64 (Int.tdiv (wrap64 ((wrap64 (x7_1+x8_1))+1)) 2))] from rfl) (Reps.none _ _))); intro v285 w11 ho12 hb hg_ hnew_; clear hg_ hnew_; (first|rw [←Ny284.out] at ho12|(simp only [Int.reduceToNat] at ho12; rw [←Ny284.out] at ho12)); have n0_:=Aside0.mk (Kd.R_lower ho12 (zar (by repeat (first|(with_reducible first|exact HB.out|apply zaa|apply zab|apply zae)|exact HB.out)))); have n1_:=Aside0.mk (zam (by repeat (first|(with_reducible first|exact HB.out|apply zaa|apply zab|apply zae)|exact HB.out)) hb); clear HB; have HO286:=n0_; have HB:=n1_; clear n0_ n1_; clear hb ho12; obtain ⟨Ao13,co13,eo13⟩:=Kd.R_slice HO286.out; subst eo13)|((with_reducible refine zaz (f:=209) rfl ?_); refine zbJ (some 22) rfl rfl Tryz.func209 (by kernel_rfl) rfl #[.slice A1 l1.length c1,.slice Ao13 y284.length co13] rfl (by (try simp only [List.map_toArray,List.map_cons,List.map_nil]); first|done|rfl|(simp only [List.length_drop,List.length_take]; rfl)) ?_; (with_reducible refine (c1_times.calls k1 _ _ l1 _ _ y284 t287 _ ?side1 ?side2 ?side3 ?side4 A5.out).mono ?_); (case side1=>repeat (first|exact (Kd.C_below HR1.out HB.out)|(with_reducible refine Kd.C_alloc ?_ _)|(with_reducible refine Kd.C_drewN ?_ _)|(with_reducible refine Kd.C_drew ?_))); (case side2=>exact HC1.out); (case side3=>repeat (first|exact (Kd.R_reads' HO286.out).2.2|(with_reducible refine Kd.C_alloc ?_ _)|(with_reducible refine Kd.C_drewN ?_ _)|(with_reducible refine Kd.C_drew ?_))); (case side4=>exact (Kd.R_reads' HO286.out).2.1); rintro e w14 ⟨v288,rfl,ho0,hb⟩; refine ⟨_,rfl,?_⟩; have n0_:=Aside0.mk (Kd.R_below (by (with_reducible repeat (first|apply Kd.R_alloc|apply Kd.R_drewN|apply Kd.R_drew)); exact HO286.out) hb); have n1_:=Aside0.mk (Kd.V_lower (Kd.V_mono (ok':=fun k_=>some k_≠(.slice Ao13 y284.length co13:Value).ownBlock) ho0 (fun k_ hk_=>(Kd.fresh' (Kd.R_lt (by (with_reducible repeat (first|apply Kd.R_alloc|apply Kd.R_drewN|apply Kd.R_drew)); exact HO286.out)) k_ hk_))) (zar (by repeat (first|(with_reducible first|exact HB.out|apply zaa|apply zab|apply zae)|exact HB.out)))); have n2_:=Aside0.mk (zam (by repeat (first|(with_reducible first|exact HB.out|apply zaa|apply zab|apply zae)|exact HB.out)) hb); clear HO286; clear HB; have HO286:=n0_; have HO289:=n1_; have HB:=n2_; clear n0_ n1_ n2_; (try clear hb); (try clear hb2); (try clear hk); (try clear hi); (try clear ho0); obtain ⟨i015,hi015,_,hsz15,_⟩:=info_parts info3; obtain ⟨A15,hcut15,hA15,hC15⟩:=zcZ (P:=Tryz.prog) (Value.int .i64) 0 92 3 .i64 Tryz.underlying92 hi015 hsz15 A0 c0 l0 a2 (of_decide_eq_true (by first|(with_reducible assumption)|assumption)) (of_decide_eq_true (by first|(with_reducible assumption)|assumption)) HC0.out; have HR290:=Aside0.mk (Kd.C_of_reads (h1:=fun _=>rfl) (hA15 _ (Kd.reads_of_C HR0.out))); have HC290:=Aside0.mk hC15; clear hA15 hC15 hi015 hsz15)|((with_reducible refine zaz (f:=208) rfl ?_); refine zbJ (some 26) rfl rfl Tryz.func208 (by kernel_rfl) rfl #[.slice A15 (l0.drop (a2:Int).toNat).length (c0-a2.toNat)] rfl (by (try simp only [List.map_toArray,List.map_cons,List.map_nil]); first|done|(rw [show (l0.drop (a2:Int).toNat).length=(l0.length-a2.toNat) from List.length_drop]<;>rfl)|rfl|(simp only [List.length_drop,List.length_take]; rfl)) ?_; (with_reducible refine (c1_trim.calls k1 (fun k_=>k_<w.heap.size) _ _ (l0.drop (a2:Int).toNat) t291 _ ?side1 A8.out).mono ?_); (case side1=>exact Kd.V_mk HC290.out (Kd.F_below (Kd.C_F (Kd.heap_int .i64) HR290.out) (by repeat (first|(with_reducible first|exact HB.out|apply zaa|apply zab|apply zae)|exact HB.out)))); rintro e w16 ⟨v292,rfl,ho0,hb⟩; refine ⟨_,rfl,?_⟩; have n0_:=Aside0.mk (Kd.R_below (by (with_reducible repeat (first|apply Kd.R_alloc|apply Kd.R_drewN|apply Kd.R_drew)); exact HO286.out) hb); have n1_:=Aside0.mk (Kd.V_below (by (with_reducible repeat (first|apply Kd.V_alloc|apply Kd.V_drewN|apply Kd.V_drew)); exact HO289.out) hb); have n2_:=Aside0.mk (Kd.V_lower (Kd.V_mono (ok':=fun k_=>some k_≠(.slice Ao13 y284.length co13:Value).ownBlock) ho0 (fun k_ hk_=>Or.elim hk_ (fun hs_=>fun e_=>Nat.not_le.2 hs_ (Kd.R_base HO286.out k_ e_.symm)) (fun hn_=>(Kd.fresh' (Kd.R_lt (by (with_reducible repeat (first|apply Kd.R_alloc|apply Kd.R_drewN|apply Kd.R_drew)); exact HO286.out)) k_ hn_)))) (zar (by repeat (first|(with_reducible first|exact HB.out|apply zaa|apply zab|apply zae)|exact HB.out)))); have n3_:=Aside0.mk (zam (by repeat (first|(with_reducible first|exact HB.out|apply zaa|apply zab|apply zae)|exact HB.out)) hb); clear HO286; clear HO289; clear HB; have HO286:=n0_; have HO289:=n1_; have HO293:=n2_; have HB:=n3_; clear n0_ n1_ n2_ n3_; (try clear hb); (try clear hb2); (try clear hk); (try clear hi); (try clear ho0); obtain ⟨Ao17,co17,eo17⟩:=Kd.V_slice HO293.out; subst eo17; obtain ⟨Ao18,co18,eo18⟩:=Kd.V_slice HO289.out; subst eo18)|((with_reducible refine zaz (f:=204) rfl ?_); refine zbJ (some 28) rfl rfl Tryz.func204 (by kernel_rfl) rfl #[.slice Ao17 t291.length co17,.slice Ao18 t287.length co18] rfl (by (try simp only [List.map_toArray,List.map_cons,List.map_nil]); first|done|rfl|(simp only [List.length_drop,List.length_take]; rfl)) ?_; (with_reducible refine (c1_less.calls k1 _ _ t291 _ _ t287 true _ ?side1 ?side2 ?side3 ?side4 A9.out).mono ?_); (case side1=>repeat (first|exact (Kd.V_reads' HO293.out).2.2|(with_reducible refine Kd.C_alloc ?_ _)|(with_reducible refine Kd.C_drewN ?_ _)|(with_reducible refine Kd.C_drew ?_))); (case side2=>exact (Kd.V_reads' HO293.out).2.1); (case side3=>repeat (first|exact (Kd.V_reads' HO289.out).2.2|(with_reducible refine Kd.C_alloc ?_ _)|(with_reducible refine Kd.C_drewN ?_ _)|(with_reducible refine Kd.C_drew ?_))); (case side4=>exact (Kd.V_reads' HO289.out).2.1); rintro e w' ⟨rfl,⟨nd,rfl⟩⟩; refine ⟨_,rfl,?_⟩))
       go_roundg k1
       case measure=>have:=HK1.out; omega
       case rel=>exact ⟨(x7_1),(wrap64 ((wrap64 (Int.tdiv (wrap64 ((wrap64 (x7_1+x8_1))+1)) 2))-1)),(by first|rfl|(simp; done)|(simp [*]; done)),(by first|rfl|(simp; done)|(simp [*]; done)),H',⟨by have:=HK1.out; omega⟩,⟨by repeat (first|(with_reducible first|exact HB.out|apply zaa|apply zab|apply zae)|exact HB.out)⟩⟩
      ·replace c10:=Bool.eq_false_iff.mpr c10
       subst c10
       have H1:(c1_fits.l0 k1 l0 l1 a2 (wrap64 (Int.tdiv (wrap64 ((wrap64 (x7_1+x8_1))+1)) 2)) x8_1)=some r:=by rw [if_neg (show ¬ (false=true) by decide)] at H; exact H
       clear H
       have H:=H1
       clear H1
       have H':=Aside0.mk H
       clear H
       go_wp2_with (first|((with_reducible refine za8 (N:=21) rfl ?_); refine Kd.R_lit (Kd.int .i64) _ 3 ?hg (N:=21) ?hd (xs:=([wrap64 (Int.tdiv (wrap64 ((wrap64 (x7_1+x8_1))+1)) 2)]:List Int)) (inner:=[.int .i64 (wrap64 (Int.tdiv (wrap64 ((wrap64 (x7_1+x8_1))+1)) 2))]) (ok:=fun _=>True) (okp:=fun _=>True) ?hr ?hp (fun _ hk=>hk) trivial (Below.refl _ _) (Nat.le_refl _) (by simp) ?_; (case hd=>rfl); (case hg=>rfl); (case hr=>first|(go_simp; done)|(go_simp; rfl)); (case hp=>exact (Reps.one (show Kd.M (Kd.int .i64) _ _ _ (wrap64 (Int.tdiv (wrap64 ((wrap64 (x7_1+x8_1))+1)) 2)) [.int .i64 (wrap64 (Int.tdiv (wrap64 ((wrap64 (x7_1+x8_1))+1)) 2))] from rfl) (Reps.none _ _))); intro v285 w19 ho20 hb hg_ hnew_; clear hg_ hnew_; (first|rw [←Ny284.out] at ho20|(simp only [Int.reduceToNat] at ho20; rw [←Ny284.out] at ho20)); have n0_:=Aside0.mk (Kd.R_lower ho20 (zar (by repeat (first|(with_reducible first|exact HB.out|apply zaa|apply zab|apply zae)|exact HB.out)))); have n1_:=Aside0.mk (zam (by repeat (first|(with_reducible first|exact HB.out|apply zaa|apply zab|apply zae)|exact HB.out)) hb); clear HB; have HO286:=n0_; have HB:=n1_; clear n0_ n1_; clear hb ho20; obtain ⟨Ao21,co21,eo21⟩:=Kd.R_slice HO286.out; subst eo21)|((with_reducible refine zaz (f:=209) rfl ?_); refine zbJ (some 22) rfl rfl Tryz.func209 (by kernel_rfl) rfl #[.slice A1 l1.length c1,.slice Ao21 y284.length co21] rfl (by (try simp only [List.map_toArray,List.map_cons,List.map_nil]); first|done|rfl|(simp only [List.length_drop,List.length_take]; rfl)) ?_; (with_reducible refine (c1_times.calls k1 _ _ l1 _ _ y284 t287 _ ?side1 ?side2 ?side3 ?side4 A5.out).mono ?_); (case side1=>repeat (first|exact (Kd.C_below HR1.out HB.out)|(with_reducible refine Kd.C_alloc ?_ _)|(with_reducible refine Kd.C_drewN ?_ _)|(with_reducible refine Kd.C_drew ?_))); (case side2=>exact HC1.out); (case side3=>repeat (first|exact (Kd.R_reads' HO286.out).2.2|(with_reducible refine Kd.C_alloc ?_ _)|(with_reducible refine Kd.C_drewN ?_ _)|(with_reducible refine Kd.C_drew ?_))); (case side4=>exact (Kd.R_reads' HO286.out).2.1); rintro e w22 ⟨v288,rfl,ho0,hb⟩; refine ⟨_,rfl,?_⟩; have n0_:=Aside0.mk (Kd.R_below (by (with_reducible repeat (first|apply Kd.R_alloc|apply Kd.R_drewN|apply Kd.R_drew)); exact HO286.out) hb); have n1_:=Aside0.mk (Kd.V_lower (Kd.V_mono (ok':=fun k_=>some k_≠(.slice Ao21 y284.length co21:Value).ownBlock) ho0 (fun k_ hk_=>(Kd.fresh' (Kd.R_lt (by (with_reducible repeat (first|apply Kd.R_alloc|apply Kd.R_drewN|apply Kd.R_drew)); exact HO286.out)) k_ hk_))) (zar (by repeat (first|(with_reducible first|exact HB.out|apply zaa|apply zab|apply zae)|exact HB.out)))); have n2_:=Aside0.mk (zam (by repeat (first|(with_reducible first|exact HB.out|apply zaa|apply zab|apply zae)|exact HB.out)) hb); clear HO286; clear HB; have HO286:=n0_; have HO289:=n1_; have HB:=n2_; clear n0_ n1_ n2_; (try clear hb); (try clear hb2); (try clear hk); (try clear hi); (try clear ho0); obtain ⟨i023,hi023,_,hsz23,_⟩:=info_parts info3; obtain ⟨A23,hcut23,hA23,hC23⟩:=zcZ (P:=Tryz.prog) (Value.int .i64) 0 92 3 .i64 Tryz.underlying92 hi023 hsz23 A0 c0 l0 a2 (of_decide_eq_true (by first|(with_reducible assumption)|assumption)) (of_decide_eq_true (by first|(with_reducible assumption)|assumption)) HC0.out; have HR290:=Aside0.mk (Kd.C_of_reads (h1:=fun _=>rfl) (hA23 _ (Kd.reads_of_C HR0.out))); have HC290:=Aside0.mk hC23; clear hA23 hC23 hi023 hsz23)|((with_reducible refine zaz (f:=208) rfl ?_); refine zbJ (some 26) rfl rfl Tryz.func208 (by kernel_rfl) rfl #[.slice A23 (l0.drop (a2:Int).toNat).length (c0-a2.toNat)] rfl (by (try simp only [List.map_toArray,List.map_cons,List.map_nil]); first|done|(rw [show (l0.drop (a2:Int).toNat).length=(l0.length-a2.toNat) from List.length_drop]<;>rfl)|rfl|(simp only [List.length_drop,List.length_take]; rfl)) ?_; (with_reducible refine (c1_trim.calls k1 (fun k_=>k_<w.heap.size) _ _ (l0.drop (a2:Int).toNat) t291 _ ?side1 A8.out).mono ?_); (case side1=>exact Kd.V_mk HC290.out (Kd.F_below (Kd.C_F (Kd.heap_int .i64) HR290.out) (by repeat (first|(with_reducible first|exact HB.out|apply zaa|apply zab|apply zae)|exact HB.out)))); rintro e w24 ⟨v292,rfl,ho0,hb⟩; refine ⟨_,rfl,?_⟩; have n0_:=Aside0.mk (Kd.R_below (by (with_reducible repeat (first|apply Kd.R_alloc|apply Kd.R_drewN|apply Kd.R_drew)); exact HO286.out) hb); have n1_:=Aside0.mk (Kd.V_below (by (with_reducible repeat (first|apply Kd.V_alloc|apply Kd.V_drewN|apply Kd.V_drew)); exact HO289.out) hb); have n2_:=Aside0.mk (Kd.V_lower (Kd.V_mono (ok':=fun k_=>some k_≠(.slice Ao21 y284.length co21:Value).ownBlock) ho0 (fun k_ hk_=>Or.elim hk_ (fun hs_=>fun e_=>Nat.not_le.2 hs_ (Kd.R_base HO286.out k_ e_.symm)) (fun hn_=>(Kd.fresh' (Kd.R_lt (by (with_reducible repeat (first|apply Kd.R_alloc|apply Kd.R_drewN|apply Kd.R_drew)); exact HO286.out)) k_ hn_)))) (zar (by repeat (first|(with_reducible first|exact HB.out|apply zaa|apply zab|apply zae)|exact HB.out)))); have n3_:=Aside0.mk (zam (by repeat (first|(with_reducible first|exact HB.out|apply zaa|apply zab|apply zae)|exact HB.out)) hb); clear HO286; clear HO289; clear HB; have HO286:=n0_; have HO289:=n1_; have HO293:=n2_; have HB:=n3_; clear n0_ n1_ n2_ n3_; (try clear hb); (try clear hb2); (try clear hk); (try clear hi); (try clear ho0); obtain ⟨Ao25,co25,eo25⟩:=Kd.V_slice HO293.out; subst eo25; obtain ⟨Ao26,co26,eo26⟩:=Kd.V_slice HO289.out; subst eo26)|((with_reducible refine zaz (f:=204) rfl ?_); refine zbJ (some 28) rfl rfl Tryz.func204 (by kernel_rfl) rfl #[.slice Ao25 t291.length co25,.slice Ao26 t287.length co26] rfl (by (try simp only [List.map_toArray,List.map_cons,List.map_nil]); first|done|rfl|(simp only [List.length_drop,List.length_take]; rfl)) ?_; (with_reducible refine (c1_less.calls k1 _ _ t291 _ _ t287 false _ ?side1 ?side2 ?side3 ?side4 A9.out).mono ?_); (case side1=>repeat (first|exact (Kd.V_reads' HO293.out).2.2|(with_reducible refine Kd.C_alloc ?_ _)|(with_reducible refine Kd.C_drewN ?_ _)|(with_reducible refine Kd.C_drew ?_))); (case side2=>exact (Kd.V_reads' HO293.out).2.1); (case side3=>repeat (first|exact (Kd.V_reads' HO289.out).2.2|(with_reducible refine Kd.C_alloc ?_ _)|(with_reducible refine Kd.C_drewN ?_ _)|(with_reducible refine Kd.C_drew ?_))); (case side4=>exact (Kd.V_reads' HO289.out).2.1); rintro e w' ⟨rfl,⟨nd,rfl⟩⟩; refine ⟨_,rfl,?_⟩))
       go_roundg k1
       case measure=>have:=HK1.out; omega
       case rel=>exact ⟨(wrap64 (Int.tdiv (wrap64 ((wrap64 (x7_1+x8_1))+1)) 2)),(x8_1),(by first|rfl|(simp; done)|(simp [*]; done)),(by first|rfl|(simp; done)|(simp [*]; done)),H',⟨by have:=HK1.out; omega⟩,⟨by repeat (first|(with_reducible first|exact HB.out|apply zaa|apply zab|apply zae)|exact HB.out)⟩⟩
     ·rw [if_neg c7] at H
      exact absurd H (by simp)
    ·rw [if_neg c6] at H
     exact absurd H (by simp)
   ·rw [if_neg c4] at H
    have c4b0:decide (x7_1<x8_1)=false:=decide_eq_false c4
    clear c4
    obtain rfl:=Option.some.inj H
    go_wp2
    go_ret
    exact ⟨by first|rfl|(simp [zai,zah]<;>rfl)|(simp [*,zai,zah]<;>rfl),by repeat (first|(with_reducible first|exact HB.out|apply zaa|apply zab|apply zae)|exact HB.out)⟩
end Go.Proofs.ZP
end
section
namespace Go.Proofs.ZP
open Go.RowKit Go.Proofs.ZW.Wa
theorem fits_loop (xs ys:List Int) (hx:Ld xs) (hy:Ld ys) (up:Nat) (hu:up≤xs.length) (hlx:xs.length≤1000000000000) (hly:ys.length≤1000000000000) (hY:0<lv ys) :
  ∀ (d:Nat) (low high:Int),0≤low→low≤high→high≤9999→(high-low).toNat=d→low*lv ys≤lv (xs.drop up)→lv (xs.drop up)<(high+1)*lv ys→Ev (fun k=>c1_fits.l0 k xs ys (up:Int) low high) (lv (xs.drop up)/lv ys):=by
 intro d
 induction d using Nat.strongRecOn with
 | ind d ih =>
  intro low high h0 h1 h2 hd hlo hhi
  by_cases hlt:low<high
  ·obtain ⟨q,hq⟩:∃ q:Int,q=(low+high+1)/2:=⟨_,rfl⟩
   have hq1:low<q:=by omega
   have hq2:q≤high:=by omega
   have eq1:wrap64 (Int.tdiv (wrap64 ((wrap64 (low+high))+1)) 2)=q:=by
    rw [w64' (x:=low+high) (by omega) (by omega),w64' (x:=low+high+1) (by omega) (by omega),Int.tdiv_eq_ediv_of_nonneg (by omega),w64' (by omega) (by omega),hq]
   have ht:=times_spec ys [q] hy (Ld.cons (by omega) (by omega) Ld.nil) (by simp; omega)
   rw [show lv [q]=q by simp [lv]] at ht
   have htr:=trim_ev (xs.drop up).length (xs.drop up) rfl (by rw [List.length_drop]; omega) (hx.drop up)
   have hX:=zaW (hx.drop up)
   have hP:0≤lv ys*q:=Int.mul_nonneg (Int.le_of_lt hY) (by omega)
   have hls:=less_ev (lim (lv (xs.drop up)).toNat) (lim (lv ys*q).toNat) (lim_ld _) (lim_ld _) (lim_top _) (lim_top _) (by
    obtain ⟨NN,hNN⟩:∃ N:Nat,N=1099511627776:=⟨_,rfl⟩
    rw [←hNN]
    refine lim_len ?_
    have h3:=lv_lt (hx.drop up)
    rw [List.length_drop] at h3
    have h4:((lv (xs.drop up)).toNat:Int)<((10000^(xs.length-up):Nat):Int):=by rw [Int.toNat_of_nonneg hX,Int.natCast_pow]; exact h3
    exact Nat.lt_of_lt_of_le (Int.ofNat_lt.1 h4) (Nat.pow_le_pow_right (by decide) (by omega)))
   rw [zcl,zcl,Int.toNat_of_nonneg hX,Int.toNat_of_nonneg hP] at hls
   have hrest:Ev (fun k=>if decide (lv (xs.drop up)<lv ys*q)=true then c1_fits.l0 k xs ys (up:Int) low (wrap64 (q-1)) else c1_fits.l0 k xs ys (up:Int) q high) (lv (xs.drop up)/lv ys):=by
    by_cases hc:lv (xs.drop up)<lv ys*q
    ·have hr:=ih (high:=q-1) (low:=low) ((q-1-low).toNat) (by omega) h0 (by omega) (by omega) rfl hlo (by rw [show q-1+1=q by omega,Int.mul_comm]; exact hc)
     refine Ev.congr (fun k => ?_) hr
     rw [if_pos (decide_eq_true hc),w64' (by omega) (by omega)]
    ·have hr:=ih (high:=high) (low:=q) ((high-q).toNat) (by omega) (by omega) hq2 h2 rfl (by rw [Int.mul_comm]; exact Int.not_lt.1 hc) hhi
     refine Ev.congr (fun k => ?_) hr
     rw [if_neg (by rw [decide_eq_true_iff]; exact hc)]
   refine Ev.step (f:=fun k=>(c1_times.f k ys [q]).bind fun t287=>((c1_trim.f k (xs.drop up)).bind fun t291=>((c1_less.f k t291 t287).bind fun t294=>(if t294=true then c1_fits.l0 k xs ys (up:Int) low (wrap64 (q-1)) else c1_fits.l0 k xs ys (up:Int) q high)))) (fun k => ?_) (Ev.bind ht (Ev.bind htr (Ev.bind hls hrest)))
   simp only [c1_fits.l0]
   rw [if_pos hlt,eq1]
   simp only [if_pos (show (0:Int)≤(up:Int) by omega),if_pos (show (up:Int)≤(xs.length:Int) by omega),Int.toNat_natCast]
  ·have he:low=high:=by omega
   subst he
   have hv:lv (xs.drop up)/lv ys=low:=by
    refine (Int.ediv_emod_unique (r:=lv (xs.drop up)-lv ys*low) hY).2 ⟨by omega,?_,?_⟩ |>.1
    ·rw [Int.mul_comm]; omega
    ·rw [Int.add_mul,Int.one_mul] at hhi
     rw [Int.mul_comm]; omega
   rw [hv]
   refine Ev.step (f:=fun _=>some low) (fun k => ?_) (Ev.now _)
   simp only [c1_fits.l0]
   rw [if_neg hlt]
theorem fits_ev (xs ys:List Int) (hx:Ld xs) (hy:Ld ys) (up:Nat) (hu:up≤xs.length) (hlx:xs.length≤1000000000000) (hly:ys.length≤1000000000000) (hY:0<lv ys) (hlt:lv (xs.drop up)<10000*lv ys):Ev (fun k=>c1_fits.f k xs ys (up:Int)) (lv (xs.drop up)/lv ys):=by
 unfold c1_fits.f
 exact fits_loop xs ys hx hy up hu hlx hly hY 9999 0 9999 (by decide) (by decide) (by decide) rfl (by rw [Int.zero_mul]; exact zaW (hx.drop up)) hlt
end Go.Proofs.ZP
end
section
namespace Go.Proofs.ZP
open Go.RowKit Go.Proofs.ZW.Wa Go.Proofs.ZW.Wb Go.Proofs.ZW.Wc
attribute [local go_sem] zaM zaK zaZ zaY zaC zaB zaL zaJ
mutual
def c1_take.l0:Nat→List Int→List Int→Int→Int→Int→Int→Option (List Int)
 | 0,_,_,_,_,_,_=>none
 | k+1,x0,x1,x2,x3,x8,x9=>if x9<(x1.length:Int) then (c1_take.j1 k x0 x1 x2 x3 x8 x9 true) else (c1_take.j1 k x0 x1 x2 x3 x8 x9 (decide (x8>0)))
def c1_take.j1:Nat→List Int→List Int→Int→Int→Int→Int→Bool→Option (List Int)
 | 0,_,_,_,_,_,_,_=>none
 | k+1,x0,x1,x2,x3,x8,x9,x18=>if x18=true then (if 0≤(wrap64 (x2+x9)) then (if (wrap64 (x2+x9))<(x0.length:Int) then (if x9<(x1.length:Int) then (if 0≤x9 then (if (wrap64 ((wrap64 ((rd x0 (wrap64 (x2+x9)))-x8))-(wrap64 (x3*(rd x1 x9)))))<0 then (c1_take.l0 k (x0.set ((wrap64 (x2+x9)):Int).toNat (wrap64 ((wrap64 ((wrap64 ((rd x0 (wrap64 (x2+x9)))-x8))-(wrap64 (x3*(rd x1 x9)))))+(wrap64 ((wrap64 (Int.tdiv (wrap64 ((wrap64 ((wrap64 (-(wrap64 ((wrap64 ((rd x0 (wrap64 (x2+x9)))-x8))-(wrap64 (x3*(rd x1 x9)))))))+10000))-1)) 10000))*10000))))) x1 x2 x3 (wrap64 (Int.tdiv (wrap64 ((wrap64 ((wrap64 (-(wrap64 ((wrap64 ((rd x0 (wrap64 (x2+x9)))-x8))-(wrap64 (x3*(rd x1 x9)))))))+10000))-1)) 10000)) (wrap64 (x9+1))) else (c1_take.l0 k (x0.set ((wrap64 (x2+x9)):Int).toNat (wrap64 ((wrap64 ((rd x0 (wrap64 (x2+x9)))-x8))-(wrap64 (x3*(rd x1 x9)))))) x1 x2 x3 0 (wrap64 (x9+1)))) else (none)) else (if (wrap64 ((rd x0 (wrap64 (x2+x9)))-x8))<0 then (c1_take.l0 k (x0.set ((wrap64 (x2+x9)):Int).toNat (wrap64 ((wrap64 ((rd x0 (wrap64 (x2+x9)))-x8))+(wrap64 ((wrap64 (Int.tdiv (wrap64 ((wrap64 ((wrap64 (-(wrap64 ((rd x0 (wrap64 (x2+x9)))-x8))))+10000))-1)) 10000))*10000))))) x1 x2 x3 (wrap64 (Int.tdiv (wrap64 ((wrap64 ((wrap64 (-(wrap64 ((rd x0 (wrap64 (x2+x9)))-x8))))+10000))-1)) 10000)) (wrap64 (x9+1))) else (c1_take.l0 k (x0.set ((wrap64 (x2+x9)):Int).toNat (wrap64 ((rd x0 (wrap64 (x2+x9)))-x8))) x1 x2 x3 0 (wrap64 (x9+1))))) else (none)) else (none)) else (some x0)
end
def c1_take.f (k:Nat) (l0:List Int) (l1:List Int) (a2:Int) (a3:Int):Option (List Int):=c1_take.l0 k l0 l1 a2 a3 0 0
end Go.Proofs.ZP
end
section
namespace Go.Proofs.ZP
open Go.RowKit Go.Proofs.ZW.Wa
theorem take_alg (L P o c M q y D c' new:Int) (h:new=o-c-M+10000*c') (hM:M=q*y):L+P*(new-o)-P*10000*c'-P*10000*(q*D)=L-P*c-P*(q*(y+10000*D)):=by
 rw [h,hM]; grind
structure DV (X0 Y:Int) (n:Nat) (xs q:List Int) (up1:Nat):Prop where
 lx:Ld xs
 lq:Ld q
 nx:xs.length=n
 nq:q.length=n
 eq:X0=lv q*Y+lv xs
 lt:lv xs<10000^up1*Y
 zero:∀ j,j<up1→rd q ((j:Nat):Int)=0
theorem DV.step {X0 Y:Int} {n up:Nat} {xs q:List Int} (h:DV X0 Y n xs q (up+1)) (hY:0<Y) (hu:up<n) :
  0≤lv (xs.drop up)/Y∧lv (xs.drop up)/Y≤9999∧lv (xs.drop up)<10000*Y∧0≤lv xs-10000^up*(lv (xs.drop up)/Y*Y) ∧
  ∀ zs,Ld zs→zs.length=n→lv zs=lv xs-10000^up*(lv (xs.drop up)/Y*Y)→DV X0 Y n zs (q.set up (lv (xs.drop up)/Y)) up:=by
 have h1:=lv_take_drop xs up (by rw [h.nx]; exact Nat.le_of_lt hu)
 have h2:=zaW (h.lx.take up)
 have h3:=lv_lt (h.lx.take up)
 rw [List.length_take,h.nx,Nat.min_eq_left (Nat.le_of_lt hu)] at h3
 have hD:=zaW (h.lx.drop up)
 have hp:=zch up
 have hlt:=h.lt
 rw [Int.pow_succ,Int.mul_assoc] at hlt
 have hb:lv (xs.drop up)<10000*Y:=by
  apply Classical.byContradiction
  intro hn
  have h5:(10000:Int)^up*(10000*Y)≤10000^up*lv (xs.drop up):=Int.mul_le_mul_of_nonneg_left (Int.not_lt.1 hn) (Int.le_of_lt hp)
  omega
 have ht0:0≤lv (xs.drop up)/Y:=Int.ediv_nonneg hD (Int.le_of_lt hY)
 have ht1:lv (xs.drop up)/Y<10000:=Int.ediv_lt_of_lt_mul hY hb
 have hm:=Int.emod_add_mul_ediv (lv (xs.drop up)) Y
 have hm0:=Int.emod_nonneg (lv (xs.drop up)) (show Y≠0 by omega)
 have hm1:=Int.emod_lt_of_pos (lv (xs.drop up)) hY
 rw [Int.mul_comm Y] at hm
 generalize lv (xs.drop up)/Y=t at *
 generalize lv (xs.drop up)%Y=s at *
 have e:lv xs-10000^up*(t*Y)=lv (xs.take up)+10000^up*s:=by
  rw [h1,←hm,Int.mul_add]; omega
 have hs0:0≤(10000:Int)^up*s:=Int.mul_nonneg (Int.le_of_lt hp) hm0
 refine ⟨ht0,by omega,hb,by rw [e]; omega,fun zs z1 z2 z3=>⟨z1,h.lq.set _ ht0 ht1,z2,by rw [List.length_set]; exact h.nq,?_,?_,?_⟩⟩
 ·rw [lv_set _ (by rw [h.nq]; exact hu),h.zero up (by omega),z3,h.eq,Int.sub_zero,Int.add_mul,Int.mul_assoc]; omega
 ·rw [z3,e]
  have h6:(10000:Int)^up*(s+1)≤10000^up*Y:=Int.mul_le_mul_of_nonneg_left (by omega) (Int.le_of_lt hp)
  rw [Int.mul_add,Int.mul_one] at h6
  omega
 ·intro j hj
  have h7:=h.zero j (by omega)
  unfold Go.Proofs.ZW.Wa.rd at *
  rw [Int.toNat_natCast] at *
  rw [List.getD_eq_getElem?_getD] at *
  rw [List.getElem?_set_ne (by omega)]
  exact h7
theorem DV.done {X0 Y:Int} {n:Nat} {xs q:List Int} (h:DV X0 Y n xs q 0) (hY:0<Y):lv q=X0/Y∧lv xs=X0%Y:=by
 have h0:=zaW h.lx
 have h1:=h.lt
 rw [Int.pow_zero,Int.one_mul] at h1
 have:=(Int.ediv_emod_unique (a:=X0) (b:=Y) (r:=lv xs) (q:=lv q) hY).2 ⟨by have:=h.eq; rw [Int.mul_comm]; omega,h0,h1⟩
 exact ⟨this.1.symm,this.2.symm⟩
theorem lv_take_zero {ws:List Int} {n:Nat} (hn:0<n) (hl:n≤ws.length) (hz:rd ws ((n-1:Nat):Int)=0):lv (ws.take n)=lv (ws.take (n-1)):=by
 obtain ⟨m,rfl⟩:∃ m,n=m+1:=⟨n-1,by omega⟩
 simp only [Nat.add_sub_cancel] at hz ⊢
 rw [lv_take_succ ws (by omega),hz,Int.mul_zero,Int.add_zero]
theorem zcI (A:Option Addr) (c:Nat) (ws:List Int) (w:World) (hw:Kd.C (Kd.int .i64) w A ws.length ws) (hlc:ws.length≤c) (hwd:Ld ws) :
  Calls Tryz.prog 208 #[.slice A ws.length c] w fun e w'=>∃ n:Nat,e = .returned (.slice A n c)∧n≤ws.length∧ws.take n=lim (lv ws).toNat∧w=w':=by
 have hmax:=hw.2.1
 go_enter Tryz.func208,Tryz.ntmps208
 go_wp2
 go_loop [0] (fun v=>∃ n:Nat,n≤ws.length∧v = .slice A n c∧lv (ws.take n)=lv ws) (fun v=>match v with|.slice _ n _=>n|_=>0)
 case atStart=>exact ⟨ws.length,Nat.le_refl _,rfl,by rw [List.take_length]⟩
 case round =>
  obtain ⟨n,hn,rfl,hv⟩:=hrel
  have HV:=Lib.hid hv
  clear hv
  rcases Nat.eq_zero_or_pos n with h0|h0
  ·subst h0
   have HF:=Lib.hid (show ws.take 0=lim (lv ws).toNat by have:=HV.out; rw [List.take_zero] at this; rw [←this]; simp [lv,zbz])
   go_wp2
   go_ret
   exact ⟨0,rfl,Nat.zero_le _,HF.out,rfl⟩
  ·obtain ⟨ad,rfl,hcell⟩:=Kd.at_int hw ((n-1:Nat):Int) (by omega) (by omega)
   rw [Int.toNat_natCast] at hcell
   by_cases hz0:rd ws ((n-1:Nat):Int)=0
   ·have hv2:=lv_take_zero h0 hn hz0
    have HV2:=Lib.hid hv2
    clear hv2
    rw [hz0] at hcell
    clear hz0
    go_wp2
    go_round
    case rel=>exact ⟨n-1,by omega,by first|(simp; done)|(simp; omega),HV2.out.symm.trans HV.out⟩
    case measure=>simp; omega
   ·have hb:(rd ws ((n-1:Nat):Int) == 0)=false:=beq_eq_false_iff_ne.2 hz0
    have HF:=Lib.hid (show ws.take n=lim (lv ws).toNat by
     refine lim_uniq (hwd.take n) ?_ (by rw [HV.out]; have:=zaW hwd; omega)
     rw [List.getLast?_eq_getElem?,List.length_take,Nat.min_eq_left hn,List.getElem?_take,if_pos (by omega),List.getElem?_eq_getElem (by omega)]
     intro e
     rw [rd_lt (by omega)] at hz0
     exact hz0 (Option.some.inj e))
    generalize rd ws ((n-1:Nat):Int)=u at hcell hb
    clear hz0
    go_wp2
    go_ret
    exact ⟨n,rfl,hn,HF.out,rfl⟩
theorem seg_byte (s:ByteArray) (hd:Dig s.data.toList) (hs:s.size≤1099511627776) (F j:Nat) (h1:F≤j) (h2:j<F+4) (h3:j<s.size) :
  wrap64 (wrap64 (10*((seg s.data.toList F j:Nat):Int))+(((s[j]'h3).toNat:Int)-48)%256)=((seg s.data.toList F (j+1):Nat):Int):=by
 have hjl:j<s.data.toList.length:=by rw [zak]; exact h3
 obtain ⟨c,hc9,hbt,hc⟩:=bt_dig hd h3
 obtain ⟨hl2,hc2⟩:=hc _ rfl
 have hb:=bt_at s (j:Int) (by rw [Int.toNat_natCast]; exact h3)
 have hb2:((s[j]'h3).toNat:Int)=(c:Int)+48:=by rw [←hbt,←hb]; rfl
 have hlt:=seg_lt hd F j h1 (by omega)
 have hlt2:10^(j-F)≤10^4:=Nat.pow_le_pow_right (by decide) (by omega)
 have a1:wrap64 (10*((seg s.data.toList F j:Nat):Int))=10*((seg s.data.toList F j:Nat):Int):=w64' (by omega) (by omega)
 rw [seg_succ _ h1 hjl,hc2,hb2,a1,w64' (by omega) (by omega)]; omega
structure LSt (w wr:World) (s:ByteArray) (v:Value) (xs:List Int) (e:Int):Prop where
 own:wr.ownsRow w.heap.size 3 1 v xs.length (nums .i64 xs)
 below:Below w.heap.size w wr
 ld:Ld xs
 le:e≤s.size
 ge : -4≤e
 len:xs.length≤s.size
 done:e≤0→lv xs=dval s.data.toList
 go:0<e→e+4*xs.length=s.size∧lv xs=seg s.data.toList e.toNat s.size
theorem own_take {w:World} {base e n0 n c:Nat} {A:Option Addr} {xs:List Value} (h:w.ownsRow base e 1 (.slice A n0 c) n0 xs) (hn:n≤n0):w.ownsRow base e 1 (.slice A n c) n (xs.take n):=by
 obtain ⟨h1,h2⟩:=h
 rcases h2 with ⟨hv,h0⟩|⟨g,cap,cur,hv,hg,hk,hc,hm,hs,ht⟩
 ·subst h0
  have:n=0:=by omega
  subst this
  exact ⟨by simp,Or.inl ⟨hv,rfl⟩⟩
 ·injection hv with ha _ hcc
  subst ha; subst hcc
  refine ⟨by rw [List.length_take]; omega,Or.inr ⟨g,c,cur,rfl,hg,hk,by omega,hm,hs,?_⟩⟩
  rw [←ht,List.take_take]
  congr 1
  omega
theorem infoI64:(Tryz.prog.info? 3).map (fun i=>(i.zero,i.size,i.bytes))=some (some (.int .i64 0),1,8):=by kernel_rfl
theorem LSt.more {w wr w1:World} {s:ByteArray} {vo v1:Value} {xs:List Int} {j:Nat} (h:LSt w wr s vo xs (j:Int)) (hd:Dig s.data.toList) (F:Nat) (j':Nat) (v:Int) (hv:((seg s.data.toList F j:Nat):Int)=v) (hF:F≤j∧j≤F+4∧(F=0∨F+4=j)) (he:(0:Int)<(j:Int))
  (ho:w1.ownsRow w.heap.size 3 1 v1 (xs ++ [v]).length (nums .i64 (xs ++ [v]))) (hb:Below w.heap.size w w1):Hid (LSt w w1 s v1 (xs ++ [v]) ((j:Int)-4)):=by
 have hsl:s.data.toList.length=s.size:=zak s
 obtain ⟨hlen,hval⟩:=h.go he
 rw [Int.toNat_natCast] at hval
 obtain ⟨f1,f2,f3⟩:=hF
 have hlt:=seg_lt hd F j f1 (by omega)
 have hlt2:10^(j-F)≤10^4:=Nat.pow_le_pow_right (by decide) (by omega)
 have hv2:lv (xs ++ [v])=seg s.data.toList F s.size:=by
  rw [zcu,hval,seg_join f1 (show j≤s.size by omega) (by omega)]
  have e4:s.size-j=4*xs.length:=by omega
  rw [e4,Nat.pow_mul]
  simp only [lv]
  rw [←hv,Int.natCast_add,Int.natCast_mul,Int.natCast_pow]
  grind
 refine ⟨ho,hb,h.ld.append (Ld.cons (by omega) (by omega) Ld.nil),by omega,by omega,by simp; omega,fun hle => ?_,fun hgo=>⟨by simp; omega,?_⟩⟩
 ·have:F=0:=by omega
  rw [hv2,this,←hsl,seg_all]
 ·have:F=j-4:=by omega
  rw [hv2,this,show ((j:Int)-4).toNat=j-4 by omega]
theorem zb0 (s:ByteArray) (w:World) (hd:Dig s.data.toList) (hs:s.size≤1099511627776) :
  Calls Tryz.prog 203 #[.string s] w fun e w'=>∃ A c,e = .returned (.slice A (lim (dval s.data.toList)).length c)∧w'.ownsRow w.heap.size 3 1 (.slice A (lim (dval s.data.toList)).length c) (lim (dval s.data.toList)).length (nums .i64 (lim (dval s.data.toList)))∧Below w.heap.size w w':=by
 have hsl:s.data.toList.length=s.size:=zak s
 have HL0:Hid (LSt w w s (.slice none 0 0) [] s.size):=⟨⟨rfl,Or.inl ⟨rfl,rfl⟩⟩,Below.refl _ _,Ld.nil,Int.le_refl _,by omega,Nat.zero_le _,fun h=>by
  have:s.data.toList = []:=List.length_eq_zero_iff.1 (by omega)
  rw [this]; rfl,fun h=>⟨by simp,by rw [Int.toNat_natCast]; unfold seg; rw [Nat.sub_self,List.take_zero]; rfl⟩⟩
 clear hsl
 go_enter Tryz.func203,Tryz.ntmps203
 go_wp2
 go_loopw [3,4] (fun vo ve wr=>∃ (xs:List Int) (e:Int),ve = .int .i64 e∧Hid (LSt w wr s vo xs e)) (fun _ ve _=>(intOf ve+4).toNat)
 case atStart=>exact ⟨[],(s.size:Int),rfl,HL0⟩
 case round =>
  obtain ⟨xs,e,rfl,HL⟩:=hrel
  by_cases he:0<e
  ·obtain ⟨E,rfl⟩:=Int.eq_ofNat_of_zero_le (Int.le_of_lt he)
   have hEs:E≤s.size:=by have:=HL.out.le; omega
   by_cases h4:(E:Int)<4
   ·have h4':(E:Int)-4<0:=by omega
    obtain ⟨F,hF⟩:∃ F:Nat,F=0:=⟨0,rfl⟩
    have HFE:=Lib.hid (show F≤E∧E≤F+4∧F=0 by omega)
    clear hF
    go_wp2_with fail
    go_loop [6,7] (fun vn vi=>∃ j:Nat,F≤j∧j≤E∧vi = .int .i64 j∧vn = .int .i64 ((seg s.data.toList F j:Nat):Int)) (fun _ vi=>E-(intOf vi).toNat)
    case atStart=>exact ⟨F,Nat.le_refl _,HFE.out.1,by first|rfl|exact congrArg (Value.int .i64) (by have:=HFE.out; omega),by rw [seg_self]; rfl⟩
    case round =>
     obtain ⟨j,hj1,hj2,rfl,rfl⟩:=hrel
     by_cases hje:j<E
     ·have hjs:j<s.size:=by omega
      have hjI:(j:Int)<(s.size:Int):=by omega
      have hjE:(j:Int)<(E:Int):=by omega
      have HSG:=Lib.hid (seg_byte s hd hs F j hj1 (by have:=HFE.out; omega) hjs)
      go_wp2
      go_round
      case rel=>exact ⟨j+1,by omega,by omega,by go_num,congrArg (Value.int .i64) HSG.out⟩
      case measure=>simp [intOf]; omega
     ·have hjE:j=E:=by omega
      subst hjE
      have hjn:¬ (j:Int)<(j:Int):=Int.lt_irrefl _
      obtain ⟨A8,c8,rfl,hr8⟩:=zbG HL.out.own
      clear hr8
      have HV:=Lib.hid (show True from trivial)
      generalize hve:((seg s.data.toList F j:Nat):Int)=v at *
      have HVE:=Lib.hid hve
      clear hve
      have hrow:=HL.out.own.alloc (.cells #[.int .i64 v] 3)
      have HRW:=Lib.hid hrow
      have HRL:=Lib.hid (zbQ (zcs wr wr.heap.size 3 .i64 [v] (Nat.le_refl _) (by simp)))
      have hbw:=bthen HL.out.below (zaa (Below.refl wr.heap.size wr) (.cells #[.int .i64 v] 3))
      have HBW:=Lib.hid hbw
      have hsb:=hbw.size
      have hll:(xs.length+1)*8≤140737488355328:=by have:=HL.out.len; omega
      clear hrow hbw
      go_wp2_with (at_builtin; refine zaO w.heap.size rfl _ _ 92 3 .i64 8 rfl Tryz.underlying92 infoI64 (by decide) (.slice A8 xs.length c8) xs [v] (some ⟨wr.heap.size,0,none⟩) 1 1 rfl rfl HRW.out HRL.out HBW.out hsb hll ?_; intro v1 w1 hown hb hg hat)
      have HL2:=HL.out.more hd F j v HVE.out (by have:=HFE.out; omega) he hown hb
      clear hown hg hat
      go_wp2
      go_roundw
      case rel=>exact ⟨xs ++ [v],(j:Int)-4,by go_num,HL2⟩
      case measure=>simp [intOf]; omega
   ·obtain ⟨F,hF⟩:∃ F:Nat,F+4=E:=⟨E-4,by omega⟩
    have h4':¬ (E:Int)-4<0:=by omega
    have HFE:=Lib.hid (show F≤E∧E≤F+4∧F+4=E by omega)
    clear hF
    go_wp2_with fail
    go_loop [6,7] (fun vn vi=>∃ j:Nat,F≤j∧j≤E∧vi = .int .i64 j∧vn = .int .i64 ((seg s.data.toList F j:Nat):Int)) (fun _ vi=>E-(intOf vi).toNat)
    case atStart=>exact ⟨F,Nat.le_refl _,HFE.out.1,by first|rfl|exact congrArg (Value.int .i64) (by have:=HFE.out; omega),by rw [seg_self]; rfl⟩
    case round =>
     obtain ⟨j,hj1,hj2,rfl,rfl⟩:=hrel
     by_cases hje:j<E
     ·have hjs:j<s.size:=by omega
      have hjI:(j:Int)<(s.size:Int):=by omega
      have hjE:(j:Int)<(E:Int):=by omega
      have HSG:=Lib.hid (seg_byte s hd hs F j hj1 (by have:=HFE.out; omega) hjs)
      go_wp2
      go_round
      case rel=>exact ⟨j+1,by omega,by omega,by go_num,congrArg (Value.int .i64) HSG.out⟩
      case measure=>simp [intOf]; omega
     ·have hjE:j=E:=by omega
      subst hjE
      have hjn:¬ (j:Int)<(j:Int):=Int.lt_irrefl _
      obtain ⟨A8,c8,rfl,hr8⟩:=zbG HL.out.own
      clear hr8
      have HV:=Lib.hid (show True from trivial)
      generalize hve:((seg s.data.toList F j:Nat):Int)=v at *
      have HVE:=Lib.hid hve
      clear hve
      have hrow:=HL.out.own.alloc (.cells #[.int .i64 v] 3)
      have HRW:=Lib.hid hrow
      have HRL:=Lib.hid (zbQ (zcs wr wr.heap.size 3 .i64 [v] (Nat.le_refl _) (by simp)))
      have hbw:=bthen HL.out.below (zaa (Below.refl wr.heap.size wr) (.cells #[.int .i64 v] 3))
      have HBW:=Lib.hid hbw
      have hsb:=hbw.size
      have hll:(xs.length+1)*8≤140737488355328:=by have:=HL.out.len; omega
      clear hrow hbw
      go_wp2_with (at_builtin; refine zaO w.heap.size rfl _ _ 92 3 .i64 8 rfl Tryz.underlying92 infoI64 (by decide) (.slice A8 xs.length c8) xs [v] (some ⟨wr.heap.size,0,none⟩) 1 1 rfl rfl HRW.out HRL.out HBW.out hsb hll ?_; intro v1 w1 hown hb hg hat)
      have HL2:=HL.out.more hd F j v HVE.out (by have:=HFE.out; omega) he hown hb
      clear hown hg hat
      go_wp2
      go_roundw
      case rel=>exact ⟨xs ++ [v],(j:Int)-4,by go_num,HL2⟩
      case measure=>simp [intOf]; omega
  ·have hR:Kd.R (Kd.int .i64) 3 wr w.heap.size (fun _=>True) u3 xs:=⟨fun _ _=>trivial,nums .i64 xs,HL.out.own,zcW .i64 xs⟩
   obtain ⟨A8,c8,rfl,hle8,hC⟩:=Kd.R_reads hR
   have HTR:=fun W=>zcI A8 c8 xs W
   clear hR
   go_wp2_with fail
   refine (HTR _ hC hle8 HL.out.ld).mono ?_
   rintro e2 w2 ⟨m,rfl,hm,htk,rfl⟩
   have hfin:=HL.out.done (by omega)
   rw [hfin,Int.toNat_natCast] at htk
   have how:=own_take HL.out.own hm
   have hml:m=(lim (dval s.data.toList)).length:=by rw [←htk,List.length_take]; omega
   have hB:=HL.out.below
   have HO:=Lib.hid (show wr.ownsRow w.heap.size 3 1 (.slice A8 (lim (dval s.data.toList)).length c8) (lim (dval s.data.toList)).length (nums .i64 (lim (dval s.data.toList))) by
    rw [←hml,←htk]
    have:nums .i64 (xs.take m)=(nums .i64 xs).take m:=by simp [nums]
    rw [this]; exact how)
   rw [hml]
   clear hfin htk how hml hC
   go_wp2
   go_ret
   exact ⟨A8,c8,rfl,HO.out,hB⟩
theorem own_head {w:World} {base e n c:Nat} {A:Option Addr} {xs:List Value} (h:w.ownsRow base e 1 (.slice A n c) n xs) (hn:0<n):∃ g,A=some ⟨g,0,none⟩∧base≤g∧g<w.heap.size:=by
 have hl:=h.lt
 obtain ⟨h1,h2⟩:=h
 rcases h2 with ⟨hv,h0⟩|⟨g,cap,cur,hv,hg,hk,hc,hm,hs,ht⟩
 ·subst h0
  simp at h1
  omega
 ·injection hv with ha _ hcc
  subst ha
  exact ⟨g,rfl,hl g rfl⟩
theorem own_C {w:World} {base c:Nat} {A:Option Addr} {xs:List Int} (h:w.ownsRow base 3 1 (.slice A xs.length c) xs.length (nums .i64 xs)):Kd.C (Kd.int .i64) w A xs.length xs∧xs.length≤c:=by
 have hR:Kd.R (Kd.int .i64) 3 w base (fun _=>True) (.slice A xs.length c) xs:=⟨fun _ _=>trivial,nums .i64 xs,h,zcW .i64 xs⟩
 obtain ⟨A8,c8,he,hle8,hC⟩:=Kd.R_reads hR
 injection he with e1 _ e3
 subst e1; subst e3
 exact ⟨hC,hle8⟩
theorem lim_len_le {a b:Nat} (h:b≤a):(lim b).length≤(lim a).length:=by
 refine lim_len ?_
 have h1:=lv_lt (lim_ld a)
 rw [zcl] at h1
 have h2:((a:Nat):Int)<((10000^(lim a).length:Nat):Int):=by rw [Int.natCast_pow]; exact h1
 omega
structure MSt (w w1 wr:World) (A1:Option Addr) (c1:Nat) (A2:Option Addr) (c2:Nat) (D:Int) (n:Nat) (ys zs:List Int) (i:Nat) (c:Int):Prop where
 le:i≤n
 zl:zs.length=n
 ld:Ld zs
 c0:0≤c
 c9:c≤1
 ox:wr.ownsRow w.heap.size 3 1 (.slice A1 n c1) n (nums .i64 zs)
 oy:wr.ownsRow w1.heap.size 3 1 (.slice A2 ys.length c2) ys.length (nums .i64 ys)
 below:Below w.heap.size w wr
 eq:lv zs-10000^i*c-10000^i*lv (ys.drop i)=D
theorem minus_alg (L P o c c' y D new:Int) (h:new=o-c-y+10000*c'):L+P*(new-o)-P*10000*c'-P*10000*D=L-P*c-P*(y+10000*D):=by
 rw [h]; grind
theorem MSt.step {w w1 wr:World} {g:Nat} {c1:Nat} {A2:Option Addr} {c2:Nat} {D:Int} {n:Nat} {ys zs:List Int} {i:Nat} {c z y:Int} (h:MSt w w1 wr (some ⟨g,0,none⟩) c1 A2 c2 D n ys zs i c) (hi:i<n) (hg:w.heap.size≤g) (hg1:g<w1.heap.size)
  (hz:rd zs (i:Int)=z) (hy:rz ys i=y) (v c':Int) (hv:v=z-c-y+10000*c') (v0:0≤v) (v9:v<10000) (c0:0≤c') (c9:c'≤1) :
  Hid (MSt w w1 (wr.setCell ⟨g,i,none⟩ (.int .i64 v)) (some ⟨g,0,none⟩) c1 A2 c2 D n ys (zs.set i v) (i+1) c'):=by
 have hst:=za2 h.ox (i:Int) v
 rw [Int.toNat_natCast] at hst
 exact {
  le:=by omega
  zl:=by rw [List.length_set]; exact h.zl
  ld:=h.ld.set i v0 v9
  c0:=c0
  c9:=c9
  ox:=hst.1
  oy:=ownsRow_setCell_below h.oy (a:=⟨g,i,none⟩) hg1 _
  below:=h.below.setCell hg _
  eq:=by
   have hd:=lv_drop ys i
   rw [hy] at hd
   rw [lv_set v (by rw [h.zl]; exact hi),hz,←h.eq,hd,Int.pow_succ]
   exact minus_alg _ _ _ _ _ _ _ _ hv }
theorem MSt.fin {w w1 wr:World} {A1 A2:Option Addr} {c1 c2 n a b:Nat} {ys zs:List Int} {c:Int} (h:MSt w w1 wr A1 c1 A2 c2 ((a:Int)-b) n ys zs n c) (hle:b≤a) (hy:ys.length≤n):lv zs=((a-b:Nat):Int):=by
 have he:=h.eq
 have hnil:ys.drop n = []:=List.drop_eq_nil_of_le hy
 rw [hnil,show lv []=0 from rfl,Int.mul_zero,Int.sub_zero] at he
 have h2:=lv_lt h.ld
 rw [h.zl] at h2
 have hc0:=h.c0
 have hc9:=h.c9
 have hc:c=0:=by
  apply Classical.byContradiction
  intro hc
  have:c=1:=by omega
  subst this
  rw [Int.mul_one] at he
  generalize (10000:Int)^n=P at *
  omega
 subst hc
 rw [Int.mul_zero] at he
 omega
def numP (s:ByteArray):Option Nat:=if ZP.Can s.data.toList∧s.size≤137438953472 then some (dval s.data.toList) else none
theorem numP_T {n:Nat} (h:(T n).size≤137438953472):numP (T n)=some n:=by unfold numP; rw [if_pos ⟨T_can n,h⟩,zbX]
theorem numP_some {s:ByteArray} {n:Nat} (h:numP s=some n):s=T n∧(T n).size≤137438953472:=by
 unfold numP at h
 split at h
 ·rename_i hc
  obtain rfl:=Option.some.inj h
  exact ⟨can_T hc.1,by rw [←can_T hc.1]; exact hc.2⟩
 ·cases h
def c1_Minus.f (a0 a1:ByteArray):Option ByteArray:=(numP a0).bind fun x=>(numP a1).bind fun y=>if y≤x then some (T (x-y)) else none
structure KSt (b0 b1:Nat) (w wr:World) (g c1 n:Nat) (A2:Option Addr) (c2:Nat) (ys zs:List Int) (up:Nat) (q R:Int) (k:Nat) (c:Int):Prop where
 le:up+k≤n
 zl:zs.length=n
 ld:Ld zs
 c0:0≤c
 c9:c≤9999
 ox:wr.ownsRow b0 3 1 (.slice (some ⟨g,0,none⟩) n c1) n (nums .i64 zs)
 oy:wr.ownsRow b1 3 1 (.slice A2 ys.length c2) ys.length (nums .i64 ys)
 keep:KeepB w wr g
 eq:lv zs-10000^(up+k)*c-10000^(up+k)*(q*lv (ys.drop k))=R
theorem KSt.zero {b0 b1:Nat} {w wr:World} {g c1 n:Nat} {A2:Option Addr} {c2:Nat} {ys zs:List Int} {up:Nat} {q R:Int} {k:Nat} {c:Int} (h:KSt b0 b1 w wr g c1 n A2 c2 ys zs up q R k c) (hR:0≤R) (hu:up+ys.length≤n) (hk:¬ up+k<n):ys.length≤k∧c=0:=by
 have hle:=h.le
 have he:=h.eq
 have h2:=lv_lt h.ld
 have h0:=h.c0
 refine ⟨by omega,?_⟩
 have hnil:ys.drop k = []:=List.drop_eq_nil_of_le (by omega)
 rw [hnil,show lv []=0 from rfl,Int.mul_zero,Int.mul_zero,Int.sub_zero,show up+k=n by omega] at he
 rw [h.zl] at h2
 apply Classical.byContradiction
 intro hc
 have h3:(10000:Int)^n*1≤10000^n*c:=Int.mul_le_mul_of_nonneg_left (by omega) (Int.le_of_lt (zch n))
 generalize (10000:Int)^n=P at *
 omega
theorem KSt.fin {b0 b1:Nat} {w wr:World} {g c1 n:Nat} {A2:Option Addr} {c2:Nat} {ys zs:List Int} {up:Nat} {q R:Int} {k:Nat} (h:KSt b0 b1 w wr g c1 n A2 c2 ys zs up q R k 0) (hk:ys.length≤k):lv zs=R:=by
 have he:=h.eq
 have hnil:ys.drop k = []:=List.drop_eq_nil_of_le hk
 rw [hnil,show lv []=0 from rfl,Int.mul_zero,Int.mul_zero,Int.mul_zero,Int.sub_zero,Int.sub_zero] at he
 exact he
theorem KSt.step {b0 b1:Nat} {w wr:World} {g c1 n:Nat} {A2:Option Addr} {c2:Nat} {ys zs:List Int} {up:Nat} {q R:Int} {k:Nat} {c z y:Int} (h:KSt b0 b1 w wr g c1 n A2 c2 ys zs up q R k c) (hk:up+k<n) (hg:g<b1)
  (hz:rd zs ((up+k:Nat):Int)=z) (hy:rz ys k=y) (v c':Int) (hv:v=z-c-q*y+10000*c') (v0:0≤v) (v9:v<10000) (c0:0≤c') (c9:c'≤9999) :
  Hid (KSt b0 b1 w (wr.setCell ⟨g,up+k,none⟩ (.int .i64 v)) g c1 n A2 c2 ys (zs.set (up+k) v) up q R (k+1) c'):=by
 have hst:=za2 h.ox ((up+k:Nat):Int) v
 rw [Int.toNat_natCast] at hst
 exact {
  le:=by omega
  zl:=by rw [List.length_set]; exact h.zl
  ld:=h.ld.set _ v0 v9
  c0:=c0
  c9:=c9
  ox:=hst.1
  oy:=ownsRow_setCell_below h.oy (a:=⟨g,up+k,none⟩) hg _
  keep:=h.keep.set _ _
  eq:=by
   have hd:=lv_drop ys k
   rw [hy] at hd
   rw [lv_set v (by rw [h.zl]; exact hk),hz,←h.eq,hd,show up+(k+1)=(up+k)+1 by omega,Int.pow_succ]
   exact take_alg _ _ _ _ (q*y) _ _ _ _ _ hv rfl }
def KPost (b0 g c1 n:Nat) (w:World) (R:Int) (e:Ending) (w':World):Prop:=∃ zs,e = .returned (.tuple #[])∧Ld zs∧zs.length=n∧lv zs=R∧w'.ownsRow b0 3 1 (.slice (some ⟨g,0,none⟩) n c1) n (nums .i64 zs)∧KeepB w w' g
theorem KPost.mk' {b0 g c1 n:Nat} {w:World} {R:Int} {w':World} (zs:List Int) (h1:Ld zs) (h2:zs.length=n) (h3:lv zs=R) (h4:w'.ownsRow b0 3 1 (.slice (some ⟨g,0,none⟩) n c1) n (nums .i64 zs)) (h5:KeepB w w' g):KPost b0 g c1 n w R (.returned (.tuple #[])) w':=⟨zs,rfl,h1,h2,h3,h4,h5⟩
theorem rtake_calls (b0 b1 g c1 n:Nat) (A2:Option Addr) (c2:Nat) (xs ys:List Int) (up:Nat) (q:Int) (w:World) (ox:w.ownsRow b0 3 1 (.slice (some ⟨g,0,none⟩) n c1) n (nums .i64 xs)) (oy:w.ownsRow b1 3 1 (.slice A2 ys.length c2) ys.length (nums .i64 ys))
  (hxl:xs.length=n) (hx:Ld xs) (hy:Ld ys) (hg:g<b1) (hq:0≤q∧q≤9999) (hu:up+ys.length≤n) (hn:n≤1000000000000) (hR:0≤lv xs-10000^up*(q*lv ys)) :
  Calls Tryz.prog 206 #[.slice (some ⟨g,0,none⟩) n c1,.slice A2 ys.length c2,.int .i64 up,.int .i64 q] w (KPost b0 g c1 n w (lv xs-10000^up*(q*lv ys))):=by
 obtain ⟨R,hRe⟩:∃ R,lv xs-10000^up*(q*lv ys)=R:=⟨_,rfl⟩
 rw [hRe] at hR ⊢
 have HM:Hid (KSt b0 b1 w w g c1 n A2 c2 ys xs up q R 0 0):=Lib.hid {
  le:=by omega
  zl:=hxl
  ld:=hx
  c0:=by decide
  c9:=by decide
  ox:=ox
  oy:=oy
  keep:=KeepB.refl _ _
  eq:=by rw [List.drop_zero,Int.mul_zero,Int.sub_zero,Nat.add_zero,hRe] }
 obtain ⟨hq0,hq9⟩:=hq
 clear hRe hxl ox oy
 go_enter Tryz.func206,Tryz.ntmps206
 go_wp2
 go_loopw [8,9] (fun vc vk wr=>∃ (k:Nat) (c:Int) (zs:List Int),vc = .int .i64 c∧vk = .int .i64 k∧Hid (KSt b0 b1 w wr g c1 n A2 c2 ys zs up q R k c)) (fun _ vk _=>n-up-(intOf vk).toNat)
 case atStart=>exact ⟨0,0,xs,rfl,rfl,HM⟩
 case round =>
  obtain ⟨k,c,zs,rfl,rfl,HM⟩:=hrel
  have hc0:=HM.out.c0
  have hc9:=HM.out.c9
  have hle:=HM.out.le
  by_cases hkn:up+k<n
  ·obtain ⟨hs1,hs2⟩:=zb1 HM.out.ox ((up+k:Nat):Int) (by omega) (by omega)
   have hbz:=HM.out.ld.rd ((up+k:Nat):Int)
   rw [Int.toNat_natCast] at hs1 hs2
   obtain ⟨z,hz⟩:∃ z,rd zs ((up+k:Nat):Int)=z:=⟨_,rfl⟩
   rw [hz] at hs1 hbz
   obtain ⟨hz0,hz9⟩:=hbz
   have HZ:=Lib.hid hz
   clear hz
   by_cases hky:k<ys.length
   ·obtain ⟨g2,rfl,-,-⟩:=own_head HM.out.oy (by omega)
    obtain ⟨ht1,ht2⟩:=zb1 HM.out.oy (k:Int) (by omega) (by omega)
    have hby:=hy.rd (k:Int)
    rw [Int.toNat_natCast] at ht1 ht2
    obtain ⟨y,hyy⟩:∃ y,rd ys (k:Int)=y:=⟨_,rfl⟩
    rw [hyy] at ht1 hby
    obtain ⟨hy0,hy9⟩:=hby
    have HY:=Lib.hid (show rz ys k=y by unfold rz; rw [if_pos hky]; exact hyy)
    clear hyy ht2
    have hM0:0≤q*y:=Int.mul_nonneg hq0 hy0
    have hM1:q*y≤9999*9999:=Int.le_trans (Int.mul_le_mul_of_nonneg_left (by omega) hq0) (Int.mul_le_mul_of_nonneg_right hq9 (by decide))
    by_cases hneg:z-c-q*y<0
    ·have HST:=KSt.step HM.out hkn hg HZ.out HY.out (z-c-q*y+(-(z-c-q*y)+10000-1)/10000*10000) ((-(z-c-q*y)+10000-1)/10000) (by omega) (by omega) (by omega) (by omega) (by omega)
     go_wp2
     go_roundw
     case rel=>exact ⟨k+1,_,_,rfl,by go_num,HST⟩
     case measure=>simp [intOf]; omega
    ·have HST:=KSt.step HM.out hkn hg HZ.out HY.out (z-c-q*y) 0 (by omega) (by omega) (by omega) (by decide) (by decide)
     go_wp2
     go_roundw
     case rel=>exact ⟨k+1,0,_,rfl,by go_num,HST⟩
     case measure=>simp [intOf]; omega
   ·have HY:=Lib.hid (show rz ys k=0 by unfold rz; rw [if_neg hky])
    by_cases hcp:0<c
    ·by_cases hneg:z-c<0
     ·have HST:=KSt.step HM.out hkn hg HZ.out HY.out (z-c+(-(z-c)+10000-1)/10000*10000) ((-(z-c)+10000-1)/10000) (by omega) (by omega) (by omega) (by omega) (by omega)
      go_wp2
      go_roundw
      case rel=>exact ⟨k+1,_,_,rfl,by go_num,HST⟩
      case measure=>simp [intOf]; omega
     ·have HST:=KSt.step HM.out hkn hg HZ.out HY.out (z-c) 0 (by omega) (by omega) (by omega) (by decide) (by decide)
      go_wp2
      go_roundw
      case rel=>exact ⟨k+1,0,_,rfl,by go_num,HST⟩
      case measure=>simp [intOf]; omega
    ·obtain rfl:c=0:=by omega
     have hfin:=Lib.hid (HM.out.fin (by omega))
     have H0:Hid (Ld zs∧zs.length=n):=Lib.hid ⟨HM.out.ld,HM.out.zl⟩
     go_wp2
     go_end0
     exact KPost.mk' zs H0.out.1 H0.out.2 hfin.out HM.out.ox HM.out.keep
  ·obtain ⟨hky,rfl⟩:=HM.out.zero hR hu hkn
   have hky':¬ k<ys.length:=by omega
   have hfin:=Lib.hid (HM.out.fin hky)
   have H0:Hid (Ld zs∧zs.length=n):=Lib.hid ⟨HM.out.ld,HM.out.zl⟩
   go_wp2
   go_end0
   exact KPost.mk' zs H0.out.1 H0.out.2 hfin.out HM.out.ox HM.out.keep
end Go.Proofs.ZP
end
