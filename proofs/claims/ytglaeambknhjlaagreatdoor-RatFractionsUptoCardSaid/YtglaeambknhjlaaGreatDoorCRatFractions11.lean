/- Texts under the proof, joined by a program (prune.py): P101, P110, STimes, QRef, QRef2, P117, QRef3, P100. -/
import Derived.Test.YtglaeambknhjlaaGreatDoorCRatFractions02
import Derived.Test.YtglaeambknhjlaaGreatDoorCRatFractions07
import Derived.Test.YtglaeambknhjlaaGreatDoorCRatFractions08
import Derived.Test.YtglaeambknhjlaaGreatDoorCRatFractions10
set_option linter.unusedVariables false
set_option linter.unusedSimpArgs false
set_option exponentiation.threshold 20001
set_option maxHeartbeats 8000000
set_option maxRecDepth 100000
section
namespace Go.Proofs.ZP
open Go.RowKit Go.Proofs.ZW.Wa Go.Proofs.ZW.Wb Go.Proofs.ZW.Wc
attribute [local go_sem] zaI zaG zaP zaO zaA zaz zaH zaF
mutual
def c1_times.l0:Nat→List Int→List Int→List Int→Int→Option (List Int)
 | 0,_,_,_,_=>none
 | k+1,x0,x1,x5,x6=>if x6<(x0.length:Int) then (c1_times.l1 k x0 x1 x5 x6 0 0) else ((c1_trim.f k x5).bind fun t275=>(some t275))
def c1_times.l1:Nat→List Int→List Int→List Int→Int→Int→Int→Option (List Int)
 | 0,_,_,_,_,_,_=>none
 | k+1,x0,x1,x5,x6,x7,x8=>if x8<(x1.length:Int) then (if 0≤(wrap64 (x6+x8)) then (if (wrap64 (x6+x8))<(x5.length:Int) then (if 0≤x6 then (if x6<(x0.length:Int) then (if 0≤x8 then (c1_times.l1 k x0 x1 (x5.set ((wrap64 (x6+x8)):Int).toNat (Int.tmod (wrap64 ((wrap64 (x7+(rd x5 (wrap64 (x6+x8)))))+(wrap64 ((rd x0 x6)*(rd x1 x8))))) 10000)) x6 (wrap64 (Int.tdiv (wrap64 ((wrap64 (x7+(rd x5 (wrap64 (x6+x8)))))+(wrap64 ((rd x0 x6)*(rd x1 x8))))) 10000)) (wrap64 (x8+1))) else (none)) else (none)) else (none)) else (none)) else (none)) else (c1_times.l2 k x0 x1 x5 x6 x7 (wrap64 (x6+(x1.length:Int))))
def c1_times.l2:Nat→List Int→List Int→List Int→Int→Int→Int→Option (List Int)
 | 0,_,_,_,_,_,_=>none
 | k+1,x0,x1,x5,x6,x7,x9=>if x7>0 then (if 0≤x9 then (if x9<(x5.length:Int) then (c1_times.l2 k x0 x1 (x5.set (x9:Int).toNat (Int.tmod (wrap64 (x7+(rd x5 x9))) 10000)) x6 (wrap64 (Int.tdiv (wrap64 (x7+(rd x5 x9))) 10000)) (wrap64 (x9+1))) else (none)) else (none)) else (c1_times.l0 k x0 x1 x5 (wrap64 (x6+1)))
end
def c1_times.f (k:Nat) (l0:List Int) (l1:List Int):Option (List Int):=if 0≤(wrap64 ((l0.length:Int)+(l1.length:Int))) then (if (wrap64 ((l0.length:Int)+(l1.length:Int)):Int).toNat≤35184372088832 then (c1_times.l0 k l0 l1 (List.replicate (wrap64 ((l0.length:Int)+(l1.length:Int)):Int).toNat 0) 0) else (none)) else (none)
theorem c1_times.calls (k:Nat) (A0:Option Addr) (c0:Nat) (l0:List Int) (A1:Option Addr) (c1:Nat) (l1:List Int) (r:List Int) (w:World) (hr0:Kd.C (Kd.int .i64) w A0 l0.length l0) (hc0:l0.length≤c0) (hr1:Kd.C (Kd.int .i64) w A1 l1.length l1) (hc1:l1.length≤c1) (h:c1_times.f k l0 l1=some r) :
  Calls Tryz.prog 209 #[.slice A0 l0.length c0,.slice A1 l1.length c1] w fun e w'=>∃ v0_:Value,e = .returned (v0_)∧Kd.V (Kd.int .i64) 3 w' w.heap.size (fun k_=>(w.heap.size≤k_)) v0_ r∧Below w.heap.size w w':=by
 have HR0:=Aside0.mk hr0
 have HC0:=Aside0.mk hc0
 clear hr0 hc0
 have HR1:=Aside0.mk hr1
 have HC1:=Aside0.mk hc1
 clear hr1 hc1
 have HB:=Aside0.mk (Below.refl w.heap.size w)
 have H:(if 0≤(wrap64 ((l0.length:Int)+(l1.length:Int))) then (if (wrap64 ((l0.length:Int)+(l1.length:Int)):Int).toNat≤35184372088832 then (c1_times.l0 k l0 l1 (List.replicate (wrap64 ((l0.length:Int)+(l1.length:Int)):Int).toNat 0) 0) else (none)) else (none))=some r:=h
 clear h
 obtain ⟨ji3,hji3⟩:∃ j_:Int,(wrap64 ((l0.length:Int)+(l1.length:Int)))=j_:=⟨_,rfl⟩
 replace H:(if 0≤(ji3) then (if (ji3:Int).toNat≤35184372088832 then (c1_times.l0 k l0 l1 (List.replicate (ji3:Int).toNat 0) 0) else (none)) else (none))=some r:=by first|(rw [hji3] at H; exact H)|(simp only [hji3] at H ⊢; exact H)
 have hji3w:(IntKind.i64.wrap ((l0.length:Int)+(l1.length:Int)))=ji3:=(i64_w _).trans hji3
 by_cases c4:0≤(ji3)
 ·rw [if_pos c4] at H
  have c4b0:=eq_true c4
  have c4b1:decide (0≤(ji3))=true:=decide_eq_true c4
  clear c4
  by_cases c5:(ji3:Int).toNat≤35184372088832
  ·rw [if_pos c5] at H
   have c5b0:=eq_true c5
   have c5b1:decide ((ji3:Int).toNat≤35184372088832)=true:=decide_eq_true c5
   clear c5
   obtain ⟨y272,hy272⟩:∃ y_:List Int,y_=(List.replicate (ji3:Int).toNat 0):=⟨_,rfl⟩
   replace H:(c1_times.l0 k l0 l1 y272 0)=some r:=by first|(rw [hy272]; with_reducible exact H)|(have H2_:=(Option.bind_some _ _).symm.trans H; rw [hy272]; with_reducible exact H2_)|(have H2_:=(Option.bind_some _ _).symm.trans H; with_reducible exact H2_)|with_reducible exact H|(rw [hy272]; exact H)|exact H
   have Ny272:=Aside0.mk hy272
   clear hy272
   have H':=Aside0.mk H
   clear H
   go_enter Tryz.func209,Tryz.ntmps209
   go_wp2_with (first|((with_reducible refine zaZ (N:=15) rfl ?_); refine Kd.R_make (Kd.int .i64) _ 3 rfl (N:=15) rfl 92 _ _ rfl ji3 rfl rfl Tryz.underlying92 (.int .i64 0) 8 info3 rfl (by decide) (by omega) 0 (ok:=fun _=>True) (okp:=fun _=>True) rfl (fun _ hk=>hk) trivial (of_decide_eq_true (by first|(with_reducible assumption)|assumption)) (Nat.le_trans (Nat.mul_le_mul_right _ (of_decide_eq_true (by first|(with_reducible assumption)|assumption):ji3.toNat≤35184372088832)) (by omega)) (Below.refl _ _) (Nat.le_refl _) ?_; intro v273 w6 ho7 hb hg_ hnew_; clear hg_ hnew_; (first|rw [←Ny272.out] at ho7|(simp only [Int.reduceToNat] at ho7; rw [←Ny272.out] at ho7)); have n0_:=Aside0.mk (Kd.R_lower (Kd.R_newM (M:=fun k_=>(w.heap.size≤k_)) ho7 (zao (by repeat (first|(with_reducible first|exact HB.out|apply zaa|apply zab|apply zac)|exact HB.out))) (fun k_ h_=>h_)) (zao (by repeat (first|(with_reducible first|exact HB.out|apply zaa|apply zab|apply zac)|exact HB.out)))); have n1_:=Aside0.mk (zam (by repeat (first|(with_reducible first|exact HB.out|apply zaa|apply zab|apply zac)|exact HB.out)) hb); clear HB; have HO274:=n0_; have HB:=n1_; clear n0_ n1_; clear hb ho7))
   go_loopg [6] k (fun kq v6 w'=>∃ (x5_1:List Int) (x6_1:Int),v6 = .int .i64 x6_1∧Aside0 (c1_times.l0 kq l0 l1 x5_1 x6_1=some r)∧Aside0 (kq≤k)∧Aside0 (Kd.R (Kd.int .i64) 3 w' w.heap.size (fun k_=>(w.heap.size≤k_)) v273 x5_1)∧Aside0 (Below w.heap.size w w'))
   case atStart=>exact ⟨(y272),(0),(by first|rfl|(simp; done)|(simp [*]; done)),H',⟨Nat.le_refl _⟩,⟨by (with_reducible repeat (first|apply Kd.R_alloc|apply Kd.R_drewN|apply Kd.R_drew)); exact Kd.R_mono HO274.out (fun _ hk=>hk.1)⟩,⟨by repeat (first|(with_reducible first|exact HB.out|apply zaa|apply zab|apply zac)|exact HB.out)⟩⟩
   case round =>
    clear H'
    try clear c1
    try clear c2
    try clear p2
    try clear c4
    try clear c4b0
    try clear c4b1
    try clear c5
    try clear c5b0
    try clear c5b1
    try clear p6
    obtain ⟨x5_1,x6_1,rfl,HA,HK1,HO_5,HB⟩:=hrel
    cases gk with
    | zero=>exact absurd HA.out (by simp [c1_times.l0])
    | succ k1 =>
     have H:=HA.out
     clear HA
     simp only [c1_times.l0] at H
     by_cases c8:x6_1<(l0.length:Int)
     ·rw [if_pos c8] at H
      have c8b0:decide (x6_1<(l0.length:Int))=true:=decide_eq_true c8
      clear c8
      have H':=Aside0.mk H
      clear H
      go_wp2
      go_loopg [7,8] k1 (fun kq v7 v8 w'=>∃ (x5_2:List Int) (x7_2:Int) (x8_2:Int),v7 = .int .i64 x7_2∧v8 = .int .i64 x8_2∧Aside0 (c1_times.l1 kq l0 l1 x5_2 x6_1 x7_2 x8_2=some r)∧Aside0 (kq≤k1)∧Aside0 (Kd.R (Kd.int .i64) 3 w' w.heap.size (fun k_=>(w.heap.size≤k_)) v273 x5_2)∧Aside0 (Below w.heap.size w w'))
      case atStart=>exact ⟨(x5_1),(0),(0),(by first|rfl|(simp; done)|(simp [*]; done)),(by first|rfl|(simp; done)|(simp [*]; done)),H',⟨Nat.le_refl _⟩,⟨by (with_reducible repeat (first|apply Kd.R_alloc|apply Kd.R_drewN|apply Kd.R_drew)); exact HO_5.out⟩,⟨by repeat (first|(with_reducible first|exact HB.out|apply zaa|apply zab|apply zac)|exact HB.out)⟩⟩
      case round =>
       clear H'
       try clear c1
       try clear c2
       try clear p2
       try clear c4
       try clear c4b0
       try clear c4b1
       try clear c5
       try clear c5b0
       try clear c5b1
       try clear p6
       try clear c8
       try clear c8b0
       try clear p2
       try clear p6
       obtain ⟨x5_2,x7_2,x8_2,rfl,rfl,HA,HK2,HO_5,HB⟩:=hrel
       cases gk with
       | zero=>exact absurd HA.out (by simp [c1_times.l1])
       | succ k2 =>
        have H:=HA.out
        clear HA
        simp only [c1_times.l1] at H
        by_cases c9:x8_2<(l1.length:Int)
        ·rw [if_pos c9] at H
         have c9b0:decide (x8_2<(l1.length:Int))=true:=decide_eq_true c9
         clear c9
         obtain ⟨ji10,hji10⟩:∃ j_:Int,(wrap64 (x6_1+x8_2))=j_:=⟨_,rfl⟩
         replace H:(if 0≤(ji10) then (if (ji10)<(x5_2.length:Int) then (if 0≤x6_1 then (if x6_1<(l0.length:Int) then (if 0≤x8_2 then (c1_times.l1 k2 l0 l1 (x5_2.set ((ji10):Int).toNat (Int.tmod (wrap64 ((wrap64 (x7_2+(rd x5_2 (ji10))))+(wrap64 ((rd l0 x6_1)*(rd l1 x8_2))))) 10000)) x6_1 (wrap64 (Int.tdiv (wrap64 ((wrap64 (x7_2+(rd x5_2 (ji10))))+(wrap64 ((rd l0 x6_1)*(rd l1 x8_2))))) 10000)) (wrap64 (x8_2+1))) else (none)) else (none)) else (none)) else (none)) else (none))=some r:=by first|(rw [hji10] at H; exact H)|(simp only [hji10] at H ⊢; exact H)
         have hji10w:(IntKind.i64.wrap (x6_1+x8_2))=ji10:=(i64_w _).trans hji10
         by_cases c11:0≤(ji10)
         ·rw [if_pos c11] at H
          have c11b0:decide (0≤(ji10))=true:=decide_eq_true c11
          clear c11
          by_cases c12:(ji10)<(x5_2.length:Int)
          ·rw [if_pos c12] at H
           have c12b0:decide ((ji10)<(x5_2.length:Int))=true:=decide_eq_true c12
           clear c12
           by_cases c13:0≤x6_1
           ·rw [if_pos c13] at H
            have c13b0:decide (0≤x6_1)=true:=decide_eq_true c13
            clear c13
            by_cases c14:x6_1<(l0.length:Int)
            ·rw [if_pos c14] at H
             have c14b0:decide (x6_1<(l0.length:Int))=true:=decide_eq_true c14
             clear c14
             by_cases c15:0≤x8_2
             ·rw [if_pos c15] at H
              have c15b0:decide (0≤x8_2)=true:=decide_eq_true c15
              clear c15
              obtain ⟨y281,hy281⟩:∃ y_:List Int,y_=(x5_2.set ((ji10):Int).toNat (Int.tmod (wrap64 ((wrap64 (x7_2+(rd x5_2 (ji10))))+(wrap64 ((rd l0 x6_1)*(rd l1 x8_2))))) 10000)):=⟨_,rfl⟩
              replace H:(c1_times.l1 k2 l0 l1 y281 x6_1 (wrap64 (Int.tdiv (wrap64 ((wrap64 (x7_2+(rd x5_2 (ji10))))+(wrap64 ((rd l0 x6_1)*(rd l1 x8_2))))) 10000)) (wrap64 (x8_2+1)))=some r:=by first|(rw [hy281]; with_reducible exact H)|(have H2_:=(Option.bind_some _ _).symm.trans H; rw [hy281]; with_reducible exact H2_)|(have H2_:=(Option.bind_some _ _).symm.trans H; with_reducible exact H2_)|with_reducible exact H|(rw [hy281]; exact H)|exact H
              have Ny281:=Aside0.mk hy281
              clear hy281
              have H':=Aside0.mk H
              clear H
              obtain ⟨Ao17,co17,eo17⟩:=Kd.R_slice HO_5.out
              subst eo17
              have p278:0≤((ji10):Int):=of_decide_eq_true (by first|(with_reducible assumption)|assumption)
              have q278:(ji10)<(x5_2.length:Int):=of_decide_eq_true (by first|(with_reducible assumption)|assumption)
              obtain ⟨ad278,e278,hx278_0⟩:=Kd.at_int (Kd.R_reads' HO_5.out).2.2 (ji10) p278 q278
              cases e278
              replace p278:=eq_true p278
              replace q278:=eq_true q278
              have p279:0≤(x6_1:Int):=of_decide_eq_true (by first|(with_reducible assumption)|assumption)
              have q279:x6_1<(l0.length:Int):=of_decide_eq_true (by first|(with_reducible assumption)|assumption)
              obtain ⟨ad279,e279,hx279_0⟩:=Kd.at_int HR0.out x6_1 p279 q279
              cases e279
              replace hx279_0:=(HB.out.cell (World.block_lt_of_cell? w _ hx279_0)).trans hx279_0
              replace p279:=eq_true p279
              replace q279:=eq_true q279
              have p280:0≤(x8_2:Int):=of_decide_eq_true (by first|(with_reducible assumption)|assumption)
              have q280:x8_2<(l1.length:Int):=of_decide_eq_true (by first|(with_reducible assumption)|assumption)
              obtain ⟨ad280,e280,hx280_0⟩:=Kd.at_int HR1.out x8_2 p280 q280
              cases e280
              replace hx280_0:=(HB.out.cell (World.block_lt_of_cell? w _ hx280_0)).trans hx280_0
              replace p280:=eq_true p280
              replace q280:=eq_true q280
              have p16:0≤((ji10):Int):=of_decide_eq_true (by first|(with_reducible assumption)|assumption)
              have q16:((ji10):Int)<((x5_2.length:Int):Int):=of_decide_eq_true (by first|(with_reducible assumption)|assumption)
              obtain ⟨go16,co16,eo16,gb16,gl16,cl16,HG16⟩:=Kd.R_form HO_5.out (by omega)
              (first|cases eo16|(injection eo16 with ea_ en_ ec_; (first|subst ea_|(injection ea_ with ea_; subst ea_)); subst ec_; clear en_))
              have GB16:=Aside0.mk gb16
              have GG16:=Aside0.mk HG16
              clear gb16 gl16 HG16
              (first|simp only [zbj] at hx278_0|skip)
              obtain ⟨hx16_0,hf16_0⟩:=Kd.R_celln 0 HO_5.out ((ji10):Int) p16 q16
              replace p16:=eq_true p16
              replace q16:=eq_true q16
              have HP18:=Kd.R_putg HO_5.out ((ji10):Int) (Int.tmod (wrap64 ((wrap64 (x7_2+(rd x5_2 (ji10))))+(wrap64 ((rd l0 x6_1)*(rd l1 x8_2))))) 10000)
              go_wp2_with (first|((with_reducible refine zbh (t:=3) (p:=52) rfl ?_); (try (rw [zcV wr]; generalize hq_:World.drewN wr _=wr; have n0_:=Aside0.mk (Kd.R_at hq_ HO_5.out); have n1_:=Aside0.mk (below_at hq_ HB.out); clear hq_ HO_5 HB; have HO_5:=n0_; have HB:=n1_; clear n0_ n1_; (try (have HP18:=Kd.R_putg HO_5.out ((ji10):Int) (Int.tmod (wrap64 ((wrap64 (x7_2+(rd x5_2 (ji10))))+(wrap64 ((rd l0 x6_1)*(rd l1 x8_2))))) 10000))))); refine za8 (t:=3) (p:=52) (v:=?vo_w19) (w1:=(wr.setCell ⟨go16,((ji10):Int).toNat,none⟩ (.int .i64 (Int.tmod (wrap64 ((wrap64 (x7_2+(rd x5_2 (ji10))))+(wrap64 ((rd l0 x6_1)*(rd l1 x8_2))))) 10000)))) ?hg ?ho ?hn ?hr ?_; (case ho=>rfl); (case hg=>rfl); (case hn=>rfl); (case hr=>first|(go_simp; done)|(go_simp; rfl)); intro w19 hw; have hg:wr.grownBy w19 (some go16):=(by rw [hw]; exact HP18.2); have hp_:Kd.R (Kd.int .i64) 3 w19 w.heap.size (fun k_=>(w.heap.size≤k_)) (.slice (some ⟨go16,0,none⟩) x5_2.length co17) y281:=(by rw [hw,Ny281.out]; exact HP18.1); clear HP18; have n0_:=Aside0.mk (hp_); have n1_:=Aside0.mk ((by rw [hw]; exact zag (HB.out) GB16.out:Below w.heap.size w w19)); clear HO_5; clear HB; have HO_5:=n0_; have HB:=n1_; clear n0_ n1_; clear hg hw hp_))
              repeat (go_quiet (first|((with_reducible refine zbh (t:=3) (p:=52) rfl ?_); (try (rw [zcV wr]; generalize hq_:World.drewN wr _=wr; have n0_:=Aside0.mk (Kd.R_at hq_ HO_5.out); have n1_:=Aside0.mk (below_at hq_ HB.out); clear hq_ HO_5 HB; have HO_5:=n0_; have HB:=n1_; clear n0_ n1_; (try (have HP18:=Kd.R_putg HO_5.out ((ji10):Int) (Int.tmod (wrap64 ((wrap64 (x7_2+(rd x5_2 (ji10))))+(wrap64 ((rd l0 x6_1)*(rd l1 x8_2))))) 10000))))); refine za8 (t:=3) (p:=52) (v:=?vo_w19) (w1:=(wr.setCell ⟨go16,((ji10):Int).toNat,none⟩ (.int .i64 (Int.tmod (wrap64 ((wrap64 (x7_2+(rd x5_2 (ji10))))+(wrap64 ((rd l0 x6_1)*(rd l1 x8_2))))) 10000)))) ?hg ?ho ?hn ?hr ?_; (case ho=>rfl); (case hg=>rfl); (case hn=>rfl); (case hr=>first|(go_simp; done)|(go_simp; rfl)); intro w19 hw; have hg:wr.grownBy w19 (some go16):=(by rw [hw]; exact HP18.2); have hp_:Kd.R (Kd.int .i64) 3 w19 w.heap.size (fun k_=>(w.heap.size≤k_)) (.slice (some ⟨go16,0,none⟩) x5_2.length co17) y281:=(by rw [hw,Ny281.out]; exact HP18.1); clear HP18; have n0_:=Aside0.mk (hp_); have n1_:=Aside0.mk ((by rw [hw]; exact zag (HB.out) GB16.out:Below w.heap.size w w19)); clear HO_5; clear HB; have HO_5:=n0_; have HB:=n1_; clear n0_ n1_; clear hg hw hp_)); try go_wp2_with (first|((with_reducible refine zbh (t:=3) (p:=52) rfl ?_); (try (rw [zcV wr]; generalize hq_:World.drewN wr _=wr; have n0_:=Aside0.mk (Kd.R_at hq_ HO_5.out); have n1_:=Aside0.mk (below_at hq_ HB.out); clear hq_ HO_5 HB; have HO_5:=n0_; have HB:=n1_; clear n0_ n1_; (try (have HP18:=Kd.R_putg HO_5.out ((ji10):Int) (Int.tmod (wrap64 ((wrap64 (x7_2+(rd x5_2 (ji10))))+(wrap64 ((rd l0 x6_1)*(rd l1 x8_2))))) 10000))))); refine za8 (t:=3) (p:=52) (v:=?vo_w19) (w1:=(wr.setCell ⟨go16,((ji10):Int).toNat,none⟩ (.int .i64 (Int.tmod (wrap64 ((wrap64 (x7_2+(rd x5_2 (ji10))))+(wrap64 ((rd l0 x6_1)*(rd l1 x8_2))))) 10000)))) ?hg ?ho ?hn ?hr ?_; (case ho=>rfl); (case hg=>rfl); (case hn=>rfl); (case hr=>first|(go_simp; done)|(go_simp; rfl)); intro w19 hw; have hg:wr.grownBy w19 (some go16):=(by rw [hw]; exact HP18.2); have hp_:Kd.R (Kd.int .i64) 3 w19 w.heap.size (fun k_=>(w.heap.size≤k_)) (.slice (some ⟨go16,0,none⟩) x5_2.length co17) y281:=(by rw [hw,Ny281.out]; exact HP18.1); clear HP18; have n0_:=Aside0.mk (hp_); have n1_:=Aside0.mk ((by rw [hw]; exact zag (HB.out) GB16.out:Below w.heap.size w w19)); clear HO_5; clear HB; have HO_5:=n0_; have HB:=n1_; clear n0_ n1_; clear hg hw hp_)))
              go_roundg k2
              case measure=>have:=HK1.out; have:=HK2.out; omega
              case rel=>exact ⟨(y281),(wrap64 (Int.tdiv (wrap64 ((wrap64 (x7_2+(rd x5_2 (ji10))))+(wrap64 ((rd l0 x6_1)*(rd l1 x8_2))))) 10000)),(wrap64 (x8_2+1)),(by first|rfl|(simp; done)|(simp only [←hji10]<;>(first|rfl|simp))|(simp [*]; done)),(by first|rfl|(simp; done)|(simp [*]; done)),H',⟨by have:=HK1.out; have:=HK2.out; omega⟩,⟨by (first|((with_reducible repeat (first|apply Kd.R_alloc|apply Kd.R_drewN|apply Kd.R_drew)); exact HO_5.out)|(rw [Ny281.out]; exact (Kd.R_putg (Kd.R_drewN HO_5.out _) _ _).1))⟩,⟨by (first|((repeat (first|(with_reducible first|exact HB.out|apply zaa|apply zab|apply zac)|exact HB.out)); done)|exact zag (zab HB.out _) GB16.out)⟩⟩
             ·rw [if_neg c15] at H
              exact absurd H (by simp)
            ·rw [if_neg c14] at H
             exact absurd H (by simp)
           ·rw [if_neg c13] at H
            exact absurd H (by simp)
          ·rw [if_neg c12] at H
           exact absurd H (by simp)
         ·rw [if_neg c11] at H
          exact absurd H (by simp)
        ·rw [if_neg c9] at H
         have c9b0:decide (x8_2<(l1.length:Int))=false:=decide_eq_false c9
         clear c9
         have H':=Aside0.mk H
         clear H
         go_wp2
         go_loopg [7,9] k2 (fun kq v7 v9 w'=>∃ (x5_3:List Int) (x7_3:Int) (x9_3:Int),v7 = .int .i64 x7_3∧v9 = .int .i64 x9_3∧Aside0 (c1_times.l2 kq l0 l1 x5_3 x6_1 x7_3 x9_3=some r)∧Aside0 (kq≤k2)∧Aside0 (Kd.R (Kd.int .i64) 3 w' w.heap.size (fun k_=>(w.heap.size≤k_)) v273 x5_3)∧Aside0 (Below w.heap.size w w'))
         case atStart=>exact ⟨(x5_2),(x7_2),(wrap64 (x6_1+(l1.length:Int))),(by first|rfl|(simp; done)|(simp [*]; done)),(by first|rfl|(simp; done)|(simp [*]; done)),H',⟨Nat.le_refl _⟩,⟨by (with_reducible repeat (first|apply Kd.R_alloc|apply Kd.R_drewN|apply Kd.R_drew)); exact HO_5.out⟩,⟨by repeat (first|(with_reducible first|exact HB.out|apply zaa|apply zab|apply zac)|exact HB.out)⟩⟩
         case round =>
          clear H'
          try clear c1
          try clear p1
          try clear q1
          try clear c2
          try clear p2
          try clear q2
          try clear c4
          try clear c4b0
          try clear c4b1
          try clear c5
          try clear c5b0
          try clear c5b1
          try clear p6
          try clear c8
          try clear c8b0
          try clear c9
          try clear c9b0
          try clear c11
          try clear c11b0
          try clear c12
          try clear c12b0
          try clear c13
          try clear c13b0
          try clear c14
          try clear c14b0
          try clear c15
          try clear c15b0
          try clear p16
          try clear q16
          try clear p16
          try clear p2
          try clear p278
          try clear p279
          try clear p280
          try clear p6
          try clear q16
          try clear q278
          try clear q279
          try clear q280
          obtain ⟨x5_3,x7_3,x9_3,rfl,rfl,HA,HK3,HO_5,HB⟩:=hrel
          cases gk with
          | zero=>exact absurd HA.out (by simp [c1_times.l2])
          | succ k3 =>
           have H:=HA.out
           clear HA
           simp only [c1_times.l2] at H
           by_cases c20:x7_3>0
           ·rw [if_pos c20] at H
            have c20b0:decide (0<x7_3)=true:=decide_eq_true c20
            clear c20
            by_cases c21:0≤x9_3
            ·rw [if_pos c21] at H
             have c21b0:decide (0≤x9_3)=true:=decide_eq_true c21
             clear c21
             by_cases c22:x9_3<(x5_3.length:Int)
             ·rw [if_pos c22] at H
              have c22b0:decide (x9_3<(x5_3.length:Int))=true:=decide_eq_true c22
              clear c22
              obtain ⟨y283,hy283⟩:∃ y_:List Int,y_=(x5_3.set (x9_3:Int).toNat (Int.tmod (wrap64 (x7_3+(rd x5_3 x9_3))) 10000)):=⟨_,rfl⟩
              replace H:(c1_times.l2 k3 l0 l1 y283 x6_1 (wrap64 (Int.tdiv (wrap64 (x7_3+(rd x5_3 x9_3))) 10000)) (wrap64 (x9_3+1)))=some r:=by first|(rw [hy283]; with_reducible exact H)|(have H2_:=(Option.bind_some _ _).symm.trans H; rw [hy283]; with_reducible exact H2_)|(have H2_:=(Option.bind_some _ _).symm.trans H; with_reducible exact H2_)|with_reducible exact H|(rw [hy283]; exact H)|exact H
              have Ny283:=Aside0.mk hy283
              clear hy283
              have H':=Aside0.mk H
              clear H
              obtain ⟨Ao24,co24,eo24⟩:=Kd.R_slice HO_5.out
              subst eo24
              have p282:0≤(x9_3:Int):=of_decide_eq_true (by first|(with_reducible assumption)|assumption)
              have q282:x9_3<(x5_3.length:Int):=of_decide_eq_true (by first|(with_reducible assumption)|assumption)
              obtain ⟨ad282,e282,hx282_0⟩:=Kd.at_int (Kd.R_reads' HO_5.out).2.2 x9_3 p282 q282
              cases e282
              replace p282:=eq_true p282
              replace q282:=eq_true q282
              have p23:0≤(x9_3:Int):=of_decide_eq_true (by first|(with_reducible assumption)|assumption)
              have q23:(x9_3:Int)<((x5_3.length:Int):Int):=of_decide_eq_true (by first|(with_reducible assumption)|assumption)
              obtain ⟨go23,co23,eo23,gb23,gl23,cl23,HG23⟩:=Kd.R_form HO_5.out (by omega)
              (first|cases eo23|(injection eo23 with ea_ en_ ec_; (first|subst ea_|(injection ea_ with ea_; subst ea_)); subst ec_; clear en_))
              have GB23:=Aside0.mk gb23
              have GG23:=Aside0.mk HG23
              clear gb23 gl23 HG23
              (first|simp only [zbj] at hx282_0|skip)
              obtain ⟨hx23_0,hf23_0⟩:=Kd.R_celln 0 HO_5.out (x9_3:Int) p23 q23
              replace p23:=eq_true p23
              replace q23:=eq_true q23
              have HP25:=Kd.R_putg HO_5.out (x9_3:Int) (Int.tmod (wrap64 (x7_3+(rd x5_3 x9_3))) 10000)
              go_wp2_with (first|((with_reducible refine zbh (t:=3) (p:=73) rfl ?_); (try (rw [zcV wr]; generalize hq_:World.drewN wr _=wr; have n0_:=Aside0.mk (Kd.R_at hq_ HO_5.out); have n1_:=Aside0.mk (below_at hq_ HB.out); clear hq_ HO_5 HB; have HO_5:=n0_; have HB:=n1_; clear n0_ n1_; (try (have HP25:=Kd.R_putg HO_5.out (x9_3:Int) (Int.tmod (wrap64 (x7_3+(rd x5_3 x9_3))) 10000))))); refine za8 (t:=3) (p:=73) (v:=?vo_w26) (w1:=(wr.setCell ⟨go23,(x9_3:Int).toNat,none⟩ (.int .i64 (Int.tmod (wrap64 (x7_3+(rd x5_3 x9_3))) 10000)))) ?hg ?ho ?hn ?hr ?_; (case ho=>rfl); (case hg=>rfl); (case hn=>rfl); (case hr=>first|(go_simp; done)|(go_simp; rfl)); intro w26 hw; have hg:wr.grownBy w26 (some go23):=(by rw [hw]; exact HP25.2); have hp_:Kd.R (Kd.int .i64) 3 w26 w.heap.size (fun k_=>(w.heap.size≤k_)) (.slice (some ⟨go23,0,none⟩) x5_3.length co24) y283:=(by rw [hw,Ny283.out]; exact HP25.1); clear HP25; have n0_:=Aside0.mk (hp_); have n1_:=Aside0.mk ((by rw [hw]; exact zag (HB.out) GB23.out:Below w.heap.size w w26)); clear HO_5; clear HB; have HO_5:=n0_; have HB:=n1_; clear n0_ n1_; clear hg hw hp_))
              go_roundg k3
              case measure=>have:=HK1.out; have:=HK2.out; have:=HK3.out; omega
              case rel=>exact ⟨(y283),(wrap64 (Int.tdiv (wrap64 (x7_3+(rd x5_3 x9_3))) 10000)),(wrap64 (x9_3+1)),(by first|rfl|(simp; done)|(simp [*]; done)),(by first|rfl|(simp; done)|(simp [*]; done)),H',⟨by have:=HK1.out; have:=HK2.out; have:=HK3.out; omega⟩,⟨by (with_reducible repeat (first|apply Kd.R_alloc|apply Kd.R_drewN|apply Kd.R_drew)); exact HO_5.out⟩,⟨by repeat (first|(with_reducible first|exact HB.out|apply zaa|apply zab|apply zac)|exact HB.out)⟩⟩
             ·rw [if_neg c22] at H
              exact absurd H (by simp)
            ·rw [if_neg c21] at H
             exact absurd H (by simp)
           ·rw [if_neg c20] at H
            have c20b0:decide (0<x7_3)=false:=decide_eq_false c20
            clear c20
            have H':=Aside0.mk H
            clear H
            go_wp2
            go_roundg k3
            case measure=>have:=HK1.out; have:=HK2.out; have:=HK3.out; omega
            case rel=>exact ⟨(x5_3),(wrap64 (x6_1+1)),(by first|rfl|(simp; done)|(simp [*]; done)),H',⟨by have:=HK1.out; have:=HK2.out; have:=HK3.out; omega⟩,⟨by (with_reducible repeat (first|apply Kd.R_alloc|apply Kd.R_drewN|apply Kd.R_drew)); exact HO_5.out⟩,⟨by repeat (first|(with_reducible first|exact HB.out|apply zaa|apply zab|apply zac)|exact HB.out)⟩⟩
     ·rw [if_neg c8] at H
      have c8b0:decide (x6_1<(l0.length:Int))=false:=decide_eq_false c8
      clear c8
      replace H:=Option.bind_eq_some_iff.mp H
      obtain ⟨t275,A270,H⟩:=H
      replace H:(some t275)=some r:=H
      have A27:=Aside0.mk A270
      clear A270
      obtain rfl:=Option.some.inj H
      obtain ⟨Ao28,co28,eo28⟩:=Kd.R_slice HO_5.out
      subst eo28
      go_wp2_with (first|(go_at_call 208; (with_reducible refine (c1_trim.calls k1 (fun k_=>some k_=(.slice Ao28 x5_1.length co28:Value).ownBlock) _ _ x5_1 t275 _ ?side1 A27.out).mono ?_); (case side1=>exact Kd.R_V (Kd.R_tight rfl (HO_5.out))); rintro e w29 ⟨v276,rfl,ho0,hb⟩; have n0_:=Aside0.mk (Kd.R_below (by (with_reducible repeat (first|apply Kd.R_alloc|apply Kd.R_drewN|apply Kd.R_drew)); exact HO_5.out) hb); have n1_:=Aside0.mk (Kd.V_lower (Kd.V_mono (ok':=fun k_=>(w.heap.size≤k_)) ho0 (fun k_ hk_=>Or.elim hk_ (fun hs_=>((HO_5.out).1 k_ hs_.symm)) (fun hn_=>(Nat.le_trans (zao (by repeat (first|(with_reducible first|exact HB.out|apply zaa|apply zab|apply zac)|exact HB.out))) hn_)))) (zao (by repeat (first|(with_reducible first|exact HB.out|apply zaa|apply zab|apply zac)|exact HB.out)))); have n2_:=Aside0.mk (zam (by repeat (first|(with_reducible first|exact HB.out|apply zaa|apply zab|apply zac)|exact HB.out)) hb); clear HO_5; clear HB; have HO_5:=n0_; have HO277:=n1_; have HB:=n2_; clear n0_ n1_ n2_; (try clear hb); (try clear hb2); (try clear hk); (try clear hi); (try clear ho0)))
      go_ret
      exact ⟨_,by first|rfl|(simp [zai,zah]<;>rfl)|(simp only [←hji3]; first|rfl|(simp [zai,zah]<;>rfl))|(simp [*,zai,zah]<;>rfl),by (with_reducible repeat (first|apply Kd.V_alloc|apply Kd.V_drewN|apply Kd.V_drew)); exact HO277.out,by repeat (first|(with_reducible first|exact HB.out|apply zaa|apply zab|apply zac)|exact HB.out)⟩
  ·rw [if_neg c5] at H
   exact absurd H (by simp)
 ·rw [if_neg c4] at H
  exact absurd H (by simp)
def c1_Times.f (k:Nat) (a0:ByteArray) (a1:ByteArray):Option (ByteArray):=(c1_limbs.f k a0).bind fun t331=>((c1_limbs.f k a1).bind fun t334=>((c1_times.f k t331 t334).bind fun t337=>((c1_text.f t337).bind fun t340=>(some t340))))
theorem c1_Times.calls (k:Nat) (a0:ByteArray) (a1:ByteArray) (r:ByteArray) (w:World) (h:c1_Times.f k a0 a1=some r) :
  Calls Tryz.prog 131 #[.string a0,.string a1] w fun e w'=>e = .returned (.string r)∧Below w.heap.size w w':=by
 have HB:=Aside0.mk (Below.refl w.heap.size w)
 have H:((c1_limbs.f k a0).bind fun t331=>((c1_limbs.f k a1).bind fun t334=>((c1_times.f k t331 t334).bind fun t337=>((c1_text.f t337).bind fun t340=>(some t340)))))=some r:=h
 clear h
 replace H:=Option.bind_eq_some_iff.mp H
 obtain ⟨t331,A30,H⟩:=H
 replace H:((c1_limbs.f k a1).bind fun t334=>((c1_times.f k t331 t334).bind fun t337=>((c1_text.f t337).bind fun t340=>(some t340))))=some r:=H
 have A3:=Aside0.mk A30
 clear A30
 replace H:=Option.bind_eq_some_iff.mp H
 obtain ⟨t334,A40,H⟩:=H
 replace H:((c1_times.f k t331 t334).bind fun t337=>((c1_text.f t337).bind fun t340=>(some t340)))=some r:=H
 have A4:=Aside0.mk A40
 clear A40
 replace H:=Option.bind_eq_some_iff.mp H
 obtain ⟨t337,A50,H⟩:=H
 replace H:((c1_text.f t337).bind fun t340=>(some t340))=some r:=H
 have A5:=Aside0.mk A50
 clear A50
 replace H:=Option.bind_eq_some_iff.mp H
 obtain ⟨t340,A60,H⟩:=H
 replace H:(some t340)=some r:=H
 have A6:=Aside0.mk A60
 clear A60
 obtain rfl:=Option.some.inj H
 go_enter Tryz.func131,Tryz.ntmps131
 go_wp2_with (first|((with_reducible refine zar (f:=203) rfl ?_); refine zaX (some 6) rfl rfl Tryz.func203 (by kernel_rfl) rfl #[.string a0] rfl (by (try simp only [List.map_toArray,List.map_cons,List.map_nil]); first|done|rfl|(simp only [List.length_drop,List.length_take]; rfl)) ?_; (with_reducible refine (c1_limbs.calls k a0 t331 _ A3.out).mono ?_); rintro e w7 ⟨v332,rfl,ho0,hb⟩; refine ⟨_,rfl,?_⟩; have n0_:=Aside0.mk (Kd.V_lower (Kd.V_mono (ok':=fun k_=>True) ho0 (fun k_ hk_=>trivial)) (zao (by repeat (first|(with_reducible first|exact HB.out|apply zaa|apply zab|apply zac)|exact HB.out)))); have n1_:=Aside0.mk (zam (by repeat (first|(with_reducible first|exact HB.out|apply zaa|apply zab|apply zac)|exact HB.out)) hb); clear HB; have HO333:=n0_; have HB:=n1_; clear n0_ n1_; (try clear hb); (try clear hb2); (try clear hk); (try clear hi); (try clear ho0))|((with_reducible refine zar (f:=203) rfl ?_); refine zaX (some 8) rfl rfl Tryz.func203 (by kernel_rfl) rfl #[.string a1] rfl (by (try simp only [List.map_toArray,List.map_cons,List.map_nil]); first|done|rfl|(simp only [List.length_drop,List.length_take]; rfl)) ?_; (with_reducible refine (c1_limbs.calls k a1 t334 _ A4.out).mono ?_); rintro e w8 ⟨v335,rfl,ho0,hb⟩; refine ⟨_,rfl,?_⟩; have n0_:=Aside0.mk (Kd.V_below (by (with_reducible repeat (first|apply Kd.V_alloc|apply Kd.V_drewN|apply Kd.V_drew)); exact HO333.out) hb); have n1_:=Aside0.mk (Kd.V_lower (Kd.V_mono (ok':=fun k_=>True) ho0 (fun k_ hk_=>trivial)) (zao (by repeat (first|(with_reducible first|exact HB.out|apply zaa|apply zab|apply zac)|exact HB.out)))); have n2_:=Aside0.mk (zam (by repeat (first|(with_reducible first|exact HB.out|apply zaa|apply zab|apply zac)|exact HB.out)) hb); clear HO333; clear HB; have HO333:=n0_; have HO336:=n1_; have HB:=n2_; clear n0_ n1_ n2_; (try clear hb); (try clear hb2); (try clear hk); (try clear hi); (try clear ho0); obtain ⟨Ao9,co9,eo9⟩:=Kd.V_slice HO333.out; subst eo9; obtain ⟨Ao10,co10,eo10⟩:=Kd.V_slice HO336.out; subst eo10)|((with_reducible refine zar (f:=209) rfl ?_); refine zaX (some 9) rfl rfl Tryz.func209 (by kernel_rfl) rfl #[.slice Ao9 t331.length co9,.slice Ao10 t334.length co10] rfl (by (try simp only [List.map_toArray,List.map_cons,List.map_nil]); first|done|rfl|(simp only [List.length_drop,List.length_take]; rfl)) ?_; (with_reducible refine (c1_times.calls k _ _ t331 _ _ t334 t337 _ ?side1 ?side2 ?side3 ?side4 A5.out).mono ?_); (case side1=>repeat (first|exact (Kd.V_reads' HO333.out).2.2|(with_reducible refine Kd.C_alloc ?_ _)|(with_reducible refine Kd.C_drewN ?_ _)|(with_reducible refine Kd.C_drew ?_))); (case side2=>exact (Kd.V_reads' HO333.out).2.1); (case side3=>repeat (first|exact (Kd.V_reads' HO336.out).2.2|(with_reducible refine Kd.C_alloc ?_ _)|(with_reducible refine Kd.C_drewN ?_ _)|(with_reducible refine Kd.C_drew ?_))); (case side4=>exact (Kd.V_reads' HO336.out).2.1); rintro e w11 ⟨v338,rfl,ho0,hb⟩; refine ⟨_,rfl,?_⟩; have n0_:=Aside0.mk (Kd.V_below (by (with_reducible repeat (first|apply Kd.V_alloc|apply Kd.V_drewN|apply Kd.V_drew)); exact HO333.out) hb); have n1_:=Aside0.mk (Kd.V_below (by (with_reducible repeat (first|apply Kd.V_alloc|apply Kd.V_drewN|apply Kd.V_drew)); exact HO336.out) hb); have n2_:=Aside0.mk (Kd.V_lower (Kd.V_mono (ok':=fun k_=>True) ho0 (fun k_ hk_=>trivial)) (zao (by repeat (first|(with_reducible first|exact HB.out|apply zaa|apply zab|apply zac)|exact HB.out)))); have n3_:=Aside0.mk (zam (by repeat (first|(with_reducible first|exact HB.out|apply zaa|apply zab|apply zac)|exact HB.out)) hb); clear HO333; clear HO336; clear HB; have HO333:=n0_; have HO336:=n1_; have HO339:=n2_; have HB:=n3_; clear n0_ n1_ n2_ n3_; (try clear hb); (try clear hb2); (try clear hk); (try clear hi); (try clear ho0); obtain ⟨Ao12,co12,eo12⟩:=Kd.V_slice HO339.out; subst eo12)|((with_reducible refine zar (f:=207) rfl ?_); refine zaX (some 10) rfl rfl Tryz.func207 (by kernel_rfl) rfl #[.slice Ao12 t337.length co12] rfl (by (try simp only [List.map_toArray,List.map_cons,List.map_nil]); first|done|rfl|(simp only [List.length_drop,List.length_take]; rfl)) ?_; (with_reducible refine (c1_text.calls _ _ t337 t340 _ ?side1 ?side2 A6.out).mono ?_); (case side1=>repeat (first|exact (Kd.V_reads' HO339.out).2.2|(with_reducible refine Kd.C_alloc ?_ _)|(with_reducible refine Kd.C_drewN ?_ _)|(with_reducible refine Kd.C_drew ?_))); (case side2=>exact (Kd.V_reads' HO339.out).2.1); rintro e w13 ⟨rfl,hb⟩; refine ⟨_,rfl,?_⟩; have n0_:=Aside0.mk (Kd.V_below (by (with_reducible repeat (first|apply Kd.V_alloc|apply Kd.V_drewN|apply Kd.V_drew)); exact HO333.out) hb); have n1_:=Aside0.mk (Kd.V_below (by (with_reducible repeat (first|apply Kd.V_alloc|apply Kd.V_drewN|apply Kd.V_drew)); exact HO336.out) hb); have n2_:=Aside0.mk (Kd.V_below (by (with_reducible repeat (first|apply Kd.V_alloc|apply Kd.V_drewN|apply Kd.V_drew)); exact HO339.out) hb); have n3_:=Aside0.mk (zam (by repeat (first|(with_reducible first|exact HB.out|apply zaa|apply zab|apply zac)|exact HB.out)) hb); clear HO333; clear HO336; clear HO339; clear HB; have HO333:=n0_; have HO336:=n1_; have HO339:=n2_; have HB:=n3_; clear n0_ n1_ n2_ n3_; (try clear hb); (try clear hb2); (try clear hk); (try clear hi)))
 go_ret
 exact ⟨by first|rfl|(simp [zai,zah]<;>rfl)|(simp [*,zai,zah]<;>rfl),by repeat (first|(with_reducible first|exact HB.out|apply zaa|apply zab|apply zac)|exact HB.out)⟩
end Go.Proofs.ZP
end
section
namespace Go.Proofs.ZP
open Go.RowKit Go.Proofs.ZW.Wa
theorem lv_take_succ (xs:List Int) {i:Nat} (h:i<xs.length):lv (xs.take (i+1))=lv (xs.take i)+10000^i*rd xs (i:Int):=by
 rw [List.take_succ_eq_append_getElem h,zco,List.length_take,Nat.min_eq_left (by omega),rd_lt h]
 simp [lv]
theorem zcw (i:Nat):(0:Int)<10000^i:=Int.pow_pos (by decide)
theorem pow4_lt {i j:Nat} (h:(10000:Int)^i<10000^j):i<j:=by
 apply Classical.byContradiction
 intro hn
 have h1:(10000:Nat)^j≤10000^i:=Nat.pow_le_pow_right (by decide) (by omega)
 have h2:((10000^j:Nat):Int)≤((10000^i:Nat):Int):=Int.ofNat_le.2 h1
 rw [Int.natCast_pow,Int.natCast_pow] at h2
 have h3:((10000:Nat):Int)^i<((10000:Nat):Int)^j:=h
 omega
theorem prod_lt {xs ys:List Int} (hx:Ld xs) (hy:Ld ys) (i:Nat) (hi:i≤xs.length):lv (xs.take i)*lv ys<10000^(xs.length+ys.length):=by
 have h1:=lv_lt (hx.take i)
 have h2:=lv_lt hy
 have h3:=za0 (hx.take i)
 have h4:=za0 hy
 rw [List.length_take,Nat.min_eq_left hi] at h1
 have h5:(10000:Int)^i≤10000^xs.length:=by
  have h6:(10000:Nat)^i≤10000^xs.length:=Nat.pow_le_pow_right (by decide) hi
  have h7:=Int.ofNat_le.2 h6
  rw [Int.natCast_pow,Int.natCast_pow] at h7
  exact h7
 rw [Int.pow_add]
 have h8:=zcw xs.length
 have h9:=zcw ys.length
 calc lv (xs.take i)*lv ys≤lv (xs.take i)*10000^ys.length:=Int.mul_le_mul_of_nonneg_left (Int.le_of_lt h2) h3
  _<10000^xs.length*10000^ys.length:=Int.mul_lt_mul_of_pos_right (by omega) h9
theorem times_alg (L P s q o x y D:Int):L+P*(s-o)+P*10000*q+P*10000*(x*D)=L+P*(s+10000*q-o-x*y)+P*(x*(y+10000*D)):=by grind
theorem l1_step (k:Nat) (xs ys out:List Int) (i j:Nat) (c:Int) (h1:j<ys.length) (h2:i+j<out.length) (h3:i<xs.length) (hs:out.length≤1099511627776) (hc:0≤c∧c<10000) (ho:0≤rd out ((i+j:Nat):Int)∧rd out ((i+j:Nat):Int)<10000) (hM:0≤rd xs (i:Int)*rd ys (j:Int)∧rd xs (i:Int)*rd ys (j:Int)≤9999*9999) :
  c1_times.l1 (k+1) xs ys out (i:Int) c (j:Int)=c1_times.l1 k xs ys (out.set (i+j) ((c+rd out ((i+j:Nat):Int)+rd xs (i:Int)*rd ys (j:Int))%10000)) (i:Int) ((c+rd out ((i+j:Nat):Int)+rd xs (i:Int)*rd ys (j:Int))/10000) ((j+1:Nat):Int):=by
 have eij:wrap64 ((i:Int)+(j:Int))=((i+j:Nat):Int):=by rw [w64' (by omega) (by omega)]; rfl
 have g1:(j:Int)<(ys.length:Int):=Int.ofNat_lt.2 h1
 have g2:(0:Int)≤((i+j:Nat):Int):=Int.natCast_nonneg _
 have g3:((i+j:Nat):Int)<(out.length:Int):=Int.ofNat_lt.2 h2
 have g4:(0:Int)≤(i:Int):=Int.natCast_nonneg _
 have g5:(i:Int)<(xs.length:Int):=Int.ofNat_lt.2 h3
 have g6:(0:Int)≤(j:Int):=Int.natCast_nonneg _
 have e7:wrap64 ((j:Int)+1)=((j+1:Nat):Int):=by rw [w64' (by omega) (by omega)]; rfl
 rw [c1_times.l1,if_pos g1,eij,if_pos g2,if_pos g3,if_pos g4,if_pos g5,if_pos g6,Int.toNat_natCast,e7]
 clear g1 g2 g3 g4 g5 g6 e7 eij h1 h2 h3 hs
 generalize rd xs (i:Int)*rd ys (j:Int)=M at *
 generalize rd out ((i+j:Nat):Int)=o at *
 have e1:wrap64 M=M:=w64' (by omega) (by omega)
 have e2:wrap64 (c+o)=c+o:=w64' (by omega) (by omega)
 have e3:wrap64 (c+o+M)=c+o+M:=w64' (by omega) (by omega)
 have e4:(c+o+M).tmod 10000=(c+o+M)%10000:=Int.tmod_eq_emod_of_nonneg (by omega)
 have e5:(c+o+M).tdiv 10000=(c+o+M)/10000:=Int.tdiv_eq_ediv_of_nonneg (by omega)
 have e6:wrap64 ((c+o+M)/10000)=(c+o+M)/10000:=w64' (by omega) (by omega)
 rw [e1,e2,e3,e4,e5,e6]
section
variable (xs ys:List Int) (hx:Ld xs) (hy:Ld ys) (hl:xs.length+ys.length≤1099511627776)
include hx hy hl
theorem times_l2 (i:Nat) (hi:i<xs.length) (r:List Int) (hr:∀ out,Ld out→out.length=xs.length+ys.length→lv out=lv (xs.take (i+1))*lv ys→Ev (fun k=>c1_times.l0 k xs ys out ((i+1:Nat):Int)) r) :
  ∀ (d kk:Nat) (out:List Int) (c:Int),Ld out→out.length=xs.length+ys.length→0≤c→c<10000→kk≤xs.length+ys.length→kk+d=xs.length+ys.length+1→lv out+10000^kk*c=lv (xs.take (i+1))*lv ys →
   Ev (fun k=>c1_times.l2 k xs ys out (i:Int) c (kk:Int)) r:=by
 intro d
 induction d with
 | zero=>intro kk out c _ _ _ _ h1 h2; omega
 | succ d ih =>
  intro kk out c hod hol hc0 hc1 hkk hd hv
  by_cases hc:0<c
  ·have hlt:=prod_lt hx hy (i+1) (by omega)
   have ho:=za0 hod
   have hp:=zcw kk
   have h1:(10000:Int)^kk*1≤10000^kk*c:=Int.mul_le_mul_of_nonneg_left (by omega) (by omega)
   have hk:kk<xs.length+ys.length:=pow4_lt (by omega)
   have hrd:=hod.rd (kk:Int)
   have hs:=ih (kk+1) (out.set kk ((c+rd out (kk:Int))%10000)) ((c+rd out (kk:Int))/10000) (hod.set _ (by omega) (by omega)) (by rw [List.length_set]; exact hol) (by omega) (by omega) (by omega) (by omega) (by
    rw [lv_set _ (by omega),←hv,Int.pow_succ]
    have e:=Int.emod_add_mul_ediv (c+rd out (kk:Int)) 10000
    generalize (c+rd out (kk:Int))%10000=s at *
    generalize (c+rd out (kk:Int))/10000=q at *
    have e2:c=s+10000*q-rd out (kk:Int):=by omega
    rw [e2]; grind)
   refine Ev.step (fun k => ?_) hs
   simp only [c1_times.l2]
   rw [if_pos (by omega),if_pos (by omega),if_pos (by omega),w64' (x:=c+rd out (kk:Int)) (by omega) (by omega),Int.tmod_eq_emod_of_nonneg (by omega),Int.tdiv_eq_ediv_of_nonneg (by omega),w64' (by omega) (by omega),w64' (by omega) (by omega),Int.toNat_natCast]
   rfl
  ·have:c=0:=by omega
   subst this
   rw [Int.mul_zero,Int.add_zero] at hv
   refine Ev.step (fun k => ?_) (hr out hod hol hv)
   simp only [c1_times.l2]
   rw [if_neg (by omega),w64' (by omega) (by omega)]
   rfl
theorem times_l1 (i:Nat) (hi:i<xs.length) (r:List Int) (hr:∀ out,Ld out→out.length=xs.length+ys.length→lv out=lv (xs.take (i+1))*lv ys→Ev (fun k=>c1_times.l0 k xs ys out ((i+1:Nat):Int)) r) :
  ∀ (d j:Nat) (out:List Int) (c:Int),Ld out→out.length=xs.length+ys.length→0≤c→c<10000→j+d=ys.length→lv out+10000^(i+j)*c+10000^(i+j)*(rd xs (i:Int)*lv (ys.drop j))=lv (xs.take (i+1))*lv ys →
   Ev (fun k=>c1_times.l1 k xs ys out (i:Int) c (j:Int)) r:=by
 intro d
 induction d with
 | zero =>
  intro j out c hod hol hc0 hc1 hd hv
  have hj:j=ys.length:=by omega
  subst hj
  rw [List.drop_length,show lv []=0 from rfl,Int.mul_zero,Int.mul_zero,Int.add_zero] at hv
  refine Ev.step (fun k => ?_) (times_l2 xs ys hx hy hl i hi r hr (xs.length+ys.length+1-(i+ys.length)) (i+ys.length) out c hod hol hc0 hc1 (by omega) (by omega) hv)
  simp only [c1_times.l1]
  rw [if_neg (by omega),w64' (by omega) (by omega)]
  rfl
 | succ d ih =>
  intro j out c hod hol hc0 hc1 hd hv
  have hj:j<ys.length:=by omega
  have hrd:=hod.rd ((i+j:Nat):Int)
  have hxi:=hx.rd (i:Int)
  have hyj:=hy.rd (j:Int)
  have hm0:0≤rd xs (i:Int)*rd ys (j:Int):=Int.mul_nonneg hxi.1 hyj.1
  have hm1:rd xs (i:Int)*rd ys (j:Int)≤9999*9999:=by
   calc rd xs (i:Int)*rd ys (j:Int)≤rd xs (i:Int)*9999:=Int.mul_le_mul_of_nonneg_left (by omega) hxi.1
    _≤9999*9999:=Int.mul_le_mul_of_nonneg_right (by omega) (by decide)
  have dy:=lv_drop ys j
  rw [show rz ys j=rd ys (j:Int) from if_pos hj] at dy
  have hs:=ih (j+1) (out.set (i+j) ((c+rd out ((i+j:Nat):Int)+rd xs (i:Int)*rd ys (j:Int))%10000)) ((c+rd out ((i+j:Nat):Int)+rd xs (i:Int)*rd ys (j:Int))/10000) (hod.set _ (by omega) (by omega)) (by rw [List.length_set]; exact hol) (by omega) (by omega) (by omega) (by
   rw [lv_set _ (by omega),←hv,show i+(j+1)=(i+j)+1 by omega,Int.pow_succ,dy]
   have e:=Int.emod_add_mul_ediv (c+rd out ((i+j:Nat):Int)+rd xs (i:Int)*rd ys (j:Int)) 10000
   generalize (c+rd out ((i+j:Nat):Int)+rd xs (i:Int)*rd ys (j:Int))%10000=s at *
   generalize (c+rd out ((i+j:Nat):Int)+rd xs (i:Int)*rd ys (j:Int))/10000=q at *
   generalize rd out ((i+j:Nat):Int)=o at *
   generalize rd xs (i:Int)=x at *
   generalize rd ys (j:Int)=y at *
   have e2:c=s+10000*q-o-x*y:=by omega
   rw [e2]; exact times_alg _ _ _ _ _ _ _ _)
  have eij:wrap64 ((i:Int)+(j:Int))=((i+j:Nat):Int):=by rw [w64' (by omega) (by omega)]; rfl
  refine Ev.step (fun k => ?_) hs
  exact l1_step k xs ys out i j c hj (by rw [hol]; exact Nat.add_lt_add hi hj) hi (by rw [hol]; exact hl) ⟨hc0,hc1⟩ hrd ⟨hm0,hm1⟩
theorem times_l0:∀ (d i:Nat) (out:List Int),Ld out→out.length=xs.length+ys.length→i+d=xs.length→lv out=lv (xs.take i)*lv ys →
  Ev (fun k=>c1_times.l0 k xs ys out (i:Int)) (lim (lv xs*lv ys).toNat):=by
 intro d
 induction d with
 | zero =>
  intro i out hod hol hd hv
  have hi:i=xs.length:=by omega
  subst hi
  rw [List.take_length] at hv
  have ht:=trim_ev out.length out rfl (by omega) hod
  rw [hv] at ht
  refine Ev.step (f:=fun k=>(c1_trim.f k out).bind fun t275=>(some t275)) (fun k => ?_) (Ev.bind ht (Ev.now _))
  simp only [c1_times.l0]
  rw [if_neg (by omega)]
 | succ d ih =>
  intro i out hod hol hd hv
  have hi:i<xs.length:=by omega
  refine Ev.step (fun k => ?_) (times_l1 xs ys hx hy hl i hi _ (fun out' h1 h2 h3=>ih (i+1) out' h1 h2 (by omega) h3) ys.length 0 out 0 hod hol (by decide) (by decide) (by omega) ?_)
  ·simp only [c1_times.l0]
   rw [if_pos (by omega)]
   rfl
  ·rw [hv,lv_take_succ xs hi,Nat.add_zero,List.drop_zero,Int.mul_zero,Int.add_zero]
   grind
theorem times_spec:Ev (fun k=>c1_times.f k xs ys) (lim (lv xs*lv ys).toNat):=by
 have h:=times_l0 xs ys hx hy hl xs.length 0 (List.replicate (xs.length+ys.length) 0) (Ld.zeros _) (by simp) (by omega) (by rw [lv_zeros,List.take_zero]; simp [lv])
 refine Ev.congr (fun k => ?_) h
 unfold c1_times.f
 have e:wrap64 ((xs.length:Int)+(ys.length:Int))=((xs.length+ys.length:Nat):Int):=by rw [w64' (by omega) (by omega)]; rfl
 rw [e,if_pos (by omega),Int.toNat_natCast,if_pos (by omega)]
 rfl
end
theorem times_ev {a b:Nat} (ha:Fine a) (hb:Fine b) (hc:Fine (a*b)):Ev (fun k=>c1_Times.f k (T a) (T b)) (T (a*b)):=by
 unfold c1_Times.f
 have h:=times_spec (lim a) (lim b) (zcg a) (zcg b) (by have:=ha.lim; have:=hb.lim; omega)
 rw [zbH,zbH,show ((a:Int)*(b:Int)).toNat=a*b by rw [←Int.natCast_mul,Int.toNat_natCast]] at h
 refine Ev.bind (limbs_T a (by unfold Fine at ha; omega)) (Ev.bind (limbs_T b (by unfold Fine at hb; omega)) (Ev.bind h ?_))
 simp only [zde (a*b) (by have:=hc.lim; omega),Option.bind_some]
 exact Ev.now _
end Go.Proofs.ZP
end
section
namespace Go.Proofs.ZQ
open Go.RowKit Go.Proofs.ZW.Wa Go.Proofs.ZP
def c1_Right.f (a0:ByteArray):Option Bool:=some (rightB a0)
theorem c1_Right.calls (a0:ByteArray) (r:Bool) (w:World) (h:c1_Right.f a0=some r) :
  Calls Tryz.prog 94 #[.string a0] w fun e w'=>e = .returned (.bool r)∧Below w.heap.size w w':=by
 obtain rfl:=Option.some.inj h
 obtain ⟨k,hk⟩:=(ref_right_ev a0).rounds
 exact (ZP.c1_Right.calls k a0 _ w hk).mono fun e w' ⟨he,hd⟩=>⟨he,zb9 hd⟩
def c1_Of.f (a0:Int):Option ByteArray:=if 0≤a0∧a0<18446744073709551616 then some (T a0.toNat) else none
theorem c1_Of.calls (a0:Int) (r:ByteArray) (w:World) (h:c1_Of.f a0=some r) :
  Calls Tryz.prog 148 #[.int .u64 a0] w fun e w'=>e = .returned (.string r)∧Below w.heap.size w w':=by
 unfold c1_Of.f at h
 split at h
 ·rename_i hc
  obtain rfl:=Option.some.inj h
  obtain ⟨n,rfl⟩:=Int.eq_ofNat_of_zero_le hc.1
  obtain ⟨k,hk⟩:=(of_tells n (by omega)).rounds
  rw [Int.toNat_natCast]
  exact ZP.c1_Of.calls k n _ w hk
 ·cases h
def numT (s:ByteArray):Option Nat:=if ZP.Can s.data.toList∧s.size≤137438953472 then some (dval s.data.toList) else none
theorem numT_T {n:Nat} (h:(T n).size≤137438953472):numT (T n)=some n:=by unfold numT; rw [if_pos ⟨T_can n,h⟩,zbG]
theorem zbT {s:ByteArray} {n:Nat} (h:numT s=some n):s=T n∧(T n).size≤137438953472:=by
 unfold numT at h
 split at h
 ·rename_i hc
  obtain rfl:=Option.some.inj h
  exact ⟨can_T hc.1,by rw [←can_T hc.1]; exact hc.2⟩
 ·cases h
theorem zdE (n:Nat):n<10^(T n).size:=(zaw (zba n)).1 (Nat.le_refl _)
theorem T_size_add (a b k:Nat) (ha:(T a).size≤k) (hb:(T b).size≤k):(T (a+b)).size≤k+1:=by
 have h1:a<10^k:=Nat.lt_of_lt_of_le (zdE a) (Nat.pow_le_pow_right (by decide) ha)
 have h2:b<10^k:=Nat.lt_of_lt_of_le (zdE b) (Nat.pow_le_pow_right (by decide) hb)
 refine (zaw (by omega)).2 ?_
 rw [Nat.pow_succ]; omega
theorem zb5 (a b:Nat):(T (a*b)).size≤(T a).size+(T b).size:=by
 have h1:=zdE a
 have h2:=zdE b
 refine (zaw (by have:=zba a; omega)).2 ?_
 rw [Nat.pow_add]
 exact Nat.mul_lt_mul'' h1 h2
theorem za2 {a b:Nat} (h:a≤b):(T a).size≤(T b).size:=by rw [zca,zca]; exact zbE h
def c1_Plus.f (a0 a1:ByteArray):Option ByteArray:=(numT a0).bind fun x=>(numT a1).bind fun y=>some (T (x+y))
theorem c1_Plus.calls (a0 a1:ByteArray) (r:ByteArray) (w:World) (h:c1_Plus.f a0 a1=some r) :
  Calls Tryz.prog 129 #[.string a0,.string a1] w fun e w'=>e = .returned (.string r)∧Below w.heap.size w w':=by
 unfold c1_Plus.f at h
 obtain ⟨x,hx,h⟩:=Option.bind_eq_some_iff.1 h
 obtain ⟨y,hy,h⟩:=Option.bind_eq_some_iff.1 h
 obtain rfl:=Option.some.inj h
 obtain ⟨rfl,h1⟩:=zbT hx
 obtain ⟨rfl,h2⟩:=zbT hy
 have h3:=T_size_add x y 137438953472 h1 h2
 obtain ⟨k,hk⟩:=(plus_ev (a:=x) (b:=y) (show _≤_ by omega) (show _≤_ by omega) (show _≤_ by omega)).rounds
 exact ZP.c1_Plus.calls k _ _ _ w hk
theorem Plus_T {a b:Nat} (ha:(T a).size≤137438953472) (hb:(T b).size≤137438953472):c1_Plus.f (T a) (T b)=some (T (a+b)):=by
 unfold c1_Plus.f
 rw [numT_T ha,numT_T hb]; rfl
def c1_Times.f (a0 a1:ByteArray):Option ByteArray:=(numT a0).bind fun x=>(numT a1).bind fun y=>some (T (x*y))
theorem c1_Times.calls (a0 a1:ByteArray) (r:ByteArray) (w:World) (h:c1_Times.f a0 a1=some r) :
  Calls Tryz.prog 131 #[.string a0,.string a1] w fun e w'=>e = .returned (.string r)∧Below w.heap.size w w':=by
 unfold c1_Times.f at h
 obtain ⟨x,hx,h⟩:=Option.bind_eq_some_iff.1 h
 obtain ⟨y,hy,h⟩:=Option.bind_eq_some_iff.1 h
 obtain rfl:=Option.some.inj h
 obtain ⟨rfl,h1⟩:=zbT hx
 obtain ⟨rfl,h2⟩:=zbT hy
 have h3:=zb5 x y
 obtain ⟨k,hk⟩:=(times_ev (a:=x) (b:=y) (show _≤_ by omega) (show _≤_ by omega) (show _≤_ by omega)).rounds
 exact ZP.c1_Times.calls k _ _ _ w hk
theorem Times_T {a b:Nat} (ha:(T a).size≤137438953472) (hb:(T b).size≤137438953472):c1_Times.f (T a) (T b)=some (T (a*b)):=by
 unfold c1_Times.f
 rw [numT_T ha,numT_T hb]; rfl
theorem less_dval:∀ (l m:List UInt8),l.length=m.length→Dig l→Dig m→Op.bytesLess l m=decide (dval l<dval m):=by
 intro l
 induction l with
 | nil =>
  intro m h _ _
  have:m = []:=List.length_eq_zero_iff.1 h.symm
  subst this
  rfl
 | cons x xs ih =>
  intro m h hl hm
  rcases m with _|⟨y,ys⟩
  ·simp at h
  ·have hlen:xs.length=ys.length:=by simpa using h
   have hx:=hl x List.mem_cons_self
   have hy:=hm y List.mem_cons_self
   have hxs:Dig xs:=fun c hc=>hl c (List.mem_cons_of_mem _ hc)
   have hys:Dig ys:=fun c hc=>hm c (List.mem_cons_of_mem _ hc)
   have b1:=dval_lt xs hxs
   have b2:=dval_lt ys hys
   rw [hlen] at b1
   have e:=ih ys hlen hxs hys
   rw [zbV,zbV,hlen]
   show (decide (x<y) || (x == y && Op.bytesLess xs ys))=_
   rw [e]
   by_cases h1:x.toNat<y.toNat
   ·have h2:x<y:=UInt8.lt_iff_toNat_lt.2 h1
    have h3:(x.toNat-48)*10^ys.length+dval xs<(y.toNat-48)*10^ys.length+dval ys:=by
     have h4:(x.toNat-48+1)*10^ys.length≤(y.toNat-48)*10^ys.length:=Nat.mul_le_mul_right _ (by omega)
     rw [Nat.add_mul,Nat.one_mul] at h4
     omega
    rw [decide_eq_true h2,decide_eq_true h3]; rfl
   ·have h2:¬ x<y:=fun h=>h1 (UInt8.lt_iff_toNat_lt.1 h)
    rw [decide_eq_false h2,Bool.false_or]
    by_cases h5:x=y
    ·subst h5
     have:decide ((x.toNat-48)*10^ys.length+dval xs<(x.toNat-48)*10^ys.length+dval ys)=decide (dval xs<dval ys):=decide_eq_decide.2 (by omega)
     rw [this,beq_self_eq_true,Bool.true_and]
    ·have h6:(x == y)=false:=beq_eq_false_iff_ne.2 h5
     have h7:y.toNat<x.toNat:=by
      have:x.toNat≠y.toNat:=fun e=>h5 (UInt8.toNat_inj.1 e)
      omega
     have h3:¬ (x.toNat-48)*10^ys.length+dval xs<(y.toNat-48)*10^ys.length+dval ys:=by
      have h4:(y.toNat-48+1)*10^ys.length≤(x.toNat-48)*10^ys.length:=Nat.mul_le_mul_right _ (by omega)
      rw [Nat.add_mul,Nat.one_mul] at h4
      omega
     rw [h6,decide_eq_false h3]; rfl
def cmpN (x y:Nat):Int:=if x<y then -1 else if y<x then 1 else 0
theorem compare_walk (x y:Nat) (w:World) :
  Calls Tryz.prog 147 #[.string (T x),.string (T y)] w fun e w'=>e = .returned (.int .i64 (cmpN x y))∧Below w.heap.size w w':=by
 by_cases hs:(T x).size=(T y).size
 ·have g1:(((T x).size:Int) == ((T y).size:Int))=true:=beq_iff_eq.2 (by omega)
  have hl:=less_dval (T x).data.toList (T y).data.toList (by rw [zaq,zaq]; exact hs) (T_can x).2.1 (T_can y).2.1
  rw [zbG,zbG,←ba_toList,←ba_toList] at hl
  by_cases h1:x<y
  ·rw [decide_eq_true h1] at hl
   have HV:=Lib.hid (show cmpN x y = -1 from if_pos h1)
   clear hs h1
   go_enter Tryz.func147,Tryz.ntmps147
   go_wp2
   go_ret
   exact ⟨by rw [HV.out]; rfl,Below.refl _ _⟩
  ·rw [decide_eq_false h1] at hl
   by_cases h2:y<x
   ·have HV:=Lib.hid (show cmpN x y=1 by unfold cmpN; rw [if_neg h1,if_pos h2])
    have hne:((T x).toList == (T y).toList)=false:=beq_eq_false_iff_ne.2 (fun e=>by
     rw [ba_toList,ba_toList] at e
     have:=T_inj ((zax e).trans (zax rfl).symm)
     omega)
    clear hs h1 h2
    go_enter Tryz.func147,Tryz.ntmps147
    go_wp2
    go_ret
    exact ⟨by rw [HV.out]; rfl,Below.refl _ _⟩
   ·have he:x=y:=by omega
    subst he
    have HV:=Lib.hid (show cmpN x x=0 by unfold cmpN; rw [if_neg h1,if_neg h2])
    have heq:((T x).toList == (T x).toList)=true:=beq_self_eq_true _
    clear hs h1 h2
    go_enter Tryz.func147,Tryz.ntmps147
    go_wp2
    go_ret
    exact ⟨by rw [HV.out]; rfl,Below.refl _ _⟩
 ·have g1:(((T x).size:Int) == ((T y).size:Int))=false:=beq_eq_false_iff_ne.2 (by omega)
  by_cases h1:(T x).size<(T y).size
  ·have h2:((T x).size:Int)<((T y).size:Int):=by omega
   have HV:=Lib.hid (show cmpN x y = -1 by
    have:x<y:=zcZ (by rwa [zca,zca] at h1)
    exact if_pos this)
   clear hs h1
   go_enter Tryz.func147,Tryz.ntmps147
   go_wp2
   go_ret
   exact ⟨by rw [HV.out]; rfl,Below.refl _ _⟩
  ·have h2:¬ ((T x).size:Int)<((T y).size:Int):=by omega
   have HV:=Lib.hid (show cmpN x y=1 by
    have:y<x:=zcZ (by rw [←zca,←zca]; omega)
    unfold cmpN
    rw [if_neg (by omega),if_pos this])
   clear hs h1
   go_enter Tryz.func147,Tryz.ntmps147
   go_wp2
   go_ret
   exact ⟨by rw [HV.out]; rfl,Below.refl _ _⟩
def c1_Compare.f (a0 a1:ByteArray):Option Int:=(numT a0).bind fun x=>(numT a1).bind fun y=>some (cmpN x y)
theorem c1_Compare.calls (a0 a1:ByteArray) (r:Int) (w:World) (h:c1_Compare.f a0 a1=some r) :
  Calls Tryz.prog 147 #[.string a0,.string a1] w fun e w'=>e = .returned (.int .i64 r)∧Below w.heap.size w w':=by
 unfold c1_Compare.f at h
 obtain ⟨x,hx,h⟩:=Option.bind_eq_some_iff.1 h
 obtain ⟨y,hy,h⟩:=Option.bind_eq_some_iff.1 h
 obtain rfl:=Option.some.inj h
 obtain ⟨rfl,h1⟩:=zbT hx
 obtain ⟨rfl,h2⟩:=zbT hy
 exact compare_walk x y w
theorem Compare_T {a b:Nat} (ha:(T a).size≤137438953472) (hb:(T b).size≤137438953472):c1_Compare.f (T a) (T b)=some (cmpN a b):=by
 unfold c1_Compare.f
 rw [numT_T ha,numT_T hb]; rfl
end Go.Proofs.ZQ
end
section
namespace Go.Proofs.ZP
open Go.RowKit Go.Proofs.ZW.Wa Go.Proofs.ZW.Wb Go.Proofs.ZW.Wc
attribute [local go_sem] zaI zaG zaP zaO zaA zaz zaH zaF
def c1_Power.l0:Nat→ByteArray→Int→ByteArray→Option (ByteArray)
 | 0,_,_,_=>none
 | k+1,x0,x1,x5=>if x1>0 then (if (Int.tmod x1 2)=1 then ((c1_Times.f k x5 x0).bind fun t383=>(if (wrap64 (Int.tdiv x1 2))>0 then ((c1_Times.f k x0 x0).bind fun t384=>(c1_Power.l0 k t384 (wrap64 (Int.tdiv x1 2)) t383)) else (c1_Power.l0 k x0 (wrap64 (Int.tdiv x1 2)) t383))) else (if (wrap64 (Int.tdiv x1 2))>0 then ((c1_Times.f k x0 x0).bind fun t385=>(c1_Power.l0 k t385 (wrap64 (Int.tdiv x1 2)) x5)) else (c1_Power.l0 k x0 (wrap64 (Int.tdiv x1 2)) x5))) else (some x5)
def c1_Power.f (k:Nat) (a0:ByteArray) (a1:Int):Option (ByteArray):=c1_Power.l0 k a0 a1 (⟨#[49]⟩:ByteArray)
end Go.Proofs.ZP
end
section
namespace Go.Proofs.ZQ
open Go.RowKit Go.Proofs.ZW.Wa Go.Proofs.ZP
def c1_Power.f (a0:ByteArray) (a1:Int):Option ByteArray:=(numT a0).bind fun x=>if 0≤a1∧a1≤1000000000∧4*(T x).size*a1.toNat+1≤137438953472 then some (T (x^a1.toNat)) else none
end Go.Proofs.ZQ
end
section
namespace Go.Proofs.ZP
open Go.RowKit Go.Proofs.ZW.Wa Go.Proofs.ZW.Wb Go.Proofs.ZW.Wc
attribute [local go_sem] zaI zaG zaP zaO zaA zaz zaH zaF
def c1_less.l0:Nat→List Int→List Int→Int→Option (Bool)
 | 0,_,_,_=>none
 | k+1,x0,x1,x5=>if x5≥0 then (if 0≤x5 then (if x5<(x0.length:Int) then (if x5<(x1.length:Int) then (if (rd x0 x5)=(rd x1 x5) then (c1_less.l0 k x0 x1 (wrap64 (x5-1))) else (some (decide ((rd x0 x5)<(rd x1 x5))))) else (none)) else (none)) else (none)) else (some false)
def c1_less.f (k:Nat) (l0:List Int) (l1:List Int):Option (Bool):=if (l0.length:Int)=(l1.length:Int) then (c1_less.l0 k l0 l1 (wrap64 ((l0.length:Int)-1))) else (some (decide ((l0.length:Int)<(l1.length:Int))))
theorem c1_less.calls (k : Nat) (A0 : Option Addr) (c0 : Nat) (l0 : List Int) (A1 : Option Addr) (c1 : Nat) (l1 : List Int) (r : Bool) (w : World) (hr0 : Kd.C (Kd.int .i64) w A0 l0.length l0) (hc0 : l0.length ≤ c0) (hr1 : Kd.C (Kd.int .i64) w A1 l1.length l1) (hc1 : l1.length ≤ c1) (h : c1_less.f k l0 l1 = some r) :
  Calls Tryz.prog 204 #[.slice A0 l0.length c0,.slice A1 l1.length c1] w fun e w'=>e = .returned (.bool r)∧Drawn0 w w':=by
 have HR0:=Aside0.mk hr0
 have HC0:=Aside0.mk hc0
 clear hr0 hc0
 have HR1:=Aside0.mk hr1
 have HC1:=Aside0.mk hc1
 clear hr1 hc1
 have H:(if (l0.length:Int)=(l1.length:Int) then (c1_less.l0 k l0 l1 (wrap64 ((l0.length:Int)-1))) else (some (decide ((l0.length:Int)<(l1.length:Int)))))=some r:=h
 clear h
 by_cases c3:(l0.length:Int)=(l1.length:Int)
 ·rw [if_pos c3] at H
  have c3b0:((l0.length:Int) == (l1.length:Int))=true:=beq_iff_eq.mpr c3
  have c3b1:((l0.length:Int) != (l1.length:Int))=false:=bne_eq_false_iff_eq.mpr c3
  have c3b2:(l0.length == l1.length)=true:=by first|simpa using c3|(simp at c3 ⊢; omega)
  clear c3
  have H':=Aside0.mk H
  clear H
  go_enter Tryz.func204,Tryz.ntmps204
  go_wp2
  repeat (go_quiet (fail); try go_wp2)
  go_loopg [5] k (fun kq v5 w'=>∃ (x5_1:Int),v5 = .int .i64 x5_1∧Aside0 (c1_less.l0 kq l0 l1 x5_1=some r)∧Aside0 (kq≤k)∧Drawn0 w w')
  case atStart=>exact ⟨(wrap64 ((l0.length:Int)-1)),(by first|rfl|(simp; done)|(simp [*]; done)),H',⟨Nat.le_refl _⟩,by repeat (first|exact Drawn0.refl _|apply Drawn0.step)⟩
  case round =>
   clear H'
   try clear c1
   try clear c2
   try clear p2
   try clear c3
   try clear c3b0
   try clear c3b1
   try clear c3b2
   obtain ⟨x5_1,rfl,HA,HK1,⟨m1,rfl⟩⟩:=hrel
   cases gk with
   | zero=>exact absurd HA.out (by simp [c1_less.l0])
   | succ k1 =>
    have H:=HA.out
    clear HA
    simp only [c1_less.l0] at H
    by_cases c4:x5_1≥0
    ·rw [if_pos c4] at H
     have c4b0:decide (0≤x5_1)=true:=decide_eq_true c4
     clear c4
     by_cases c5:0≤x5_1
     ·rw [if_pos c5] at H
      have c5b0:decide (0≤x5_1)=true:=decide_eq_true c5
      clear c5
      by_cases c6:x5_1<(l0.length:Int)
      ·rw [if_pos c6] at H
       have c6b0:decide (x5_1<(l0.length:Int))=true:=decide_eq_true c6
       clear c6
       by_cases c7:x5_1<(l1.length:Int)
       ·rw [if_pos c7] at H
        have c7b0:decide (x5_1<(l1.length:Int))=true:=decide_eq_true c7
        clear c7
        by_cases c8:(rd l0 x5_1)=(rd l1 x5_1)
        ·rw [if_pos c8] at H
         have c8b0:((rd l0 x5_1) == (rd l1 x5_1))=true:=beq_iff_eq.mpr c8
         have c8b1:((rd l0 x5_1) != (rd l1 x5_1))=false:=bne_eq_false_iff_eq.mpr c8
         clear c8
         have H':=Aside0.mk H
         clear H
         have p268:0≤(x5_1:Int):=of_decide_eq_true (by first|(with_reducible assumption)|assumption)
         have q268:x5_1<(l0.length:Int):=of_decide_eq_true (by first|(with_reducible assumption)|assumption)
         obtain ⟨ad268,e268,hx268_0⟩:=Kd.at_int HR0.out x5_1 p268 q268
         cases e268
         replace p268:=eq_true p268
         replace q268:=eq_true q268
         have p269:0≤(x5_1:Int):=of_decide_eq_true (by first|(with_reducible assumption)|assumption)
         have q269:x5_1<(l1.length:Int):=of_decide_eq_true (by first|(with_reducible assumption)|assumption)
         obtain ⟨ad269,e269,hx269_0⟩:=Kd.at_int HR1.out x5_1 p269 q269
         cases e269
         replace p269:=eq_true p269
         replace q269:=eq_true q269
         go_wp2
         repeat (go_quiet (fail); try go_wp2)
         go_roundg k1
         case measure=>have:=HK1.out; omega
         case rel=>exact ⟨(wrap64 (x5_1-1)),(by first|rfl|(simp; done)|(simp [*]; done)),H',⟨by have:=HK1.out; omega⟩,by repeat (first|exact Drawn0.refl _|apply Drawn0.step)⟩
        ·rw [if_neg c8] at H
         have c8b0:((rd l0 x5_1) == (rd l1 x5_1))=false:=beq_eq_false_iff_ne.mpr c8
         have c8b1:((rd l0 x5_1) != (rd l1 x5_1))=true:=bne_iff_ne.mpr c8
         obtain rfl:=Option.some.inj H
         have p268:0≤(x5_1:Int):=of_decide_eq_true (by first|(with_reducible assumption)|assumption)
         have q268:x5_1<(l0.length:Int):=of_decide_eq_true (by first|(with_reducible assumption)|assumption)
         obtain ⟨ad268,e268,hx268_0⟩:=Kd.at_int HR0.out x5_1 p268 q268
         cases e268
         replace p268:=eq_true p268
         replace q268:=eq_true q268
         have p269:0≤(x5_1:Int):=of_decide_eq_true (by first|(with_reducible assumption)|assumption)
         have q269:x5_1<(l1.length:Int):=of_decide_eq_true (by first|(with_reducible assumption)|assumption)
         obtain ⟨ad269,e269,hx269_0⟩:=Kd.at_int HR1.out x5_1 p269 q269
         cases e269
         replace p269:=eq_true p269
         replace q269:=eq_true q269
         have p270:0≤(x5_1:Int):=of_decide_eq_true (by first|(with_reducible assumption)|assumption)
         have q270:x5_1<(l0.length:Int):=of_decide_eq_true (by first|(with_reducible assumption)|assumption)
         obtain ⟨ad270,e270,hx270_0⟩:=Kd.at_int HR0.out x5_1 p270 q270
         obtain rfl:ad268=ad270:=(by injection e270)
         replace p270:=eq_true p270
         replace q270:=eq_true q270
         have p271:0≤(x5_1:Int):=of_decide_eq_true (by first|(with_reducible assumption)|assumption)
         have q271:x5_1<(l1.length:Int):=of_decide_eq_true (by first|(with_reducible assumption)|assumption)
         obtain ⟨ad271,e271,hx271_0⟩:=Kd.at_int HR1.out x5_1 p271 q271
         obtain rfl:ad269=ad271:=(by injection e271)
         replace p271:=eq_true p271
         replace q271:=eq_true q271
         go_wp2
         repeat (go_quiet (fail); try go_wp2)
         go_ret
         exact ⟨by first|rfl|(simp; done)|(simp [*]; done),by repeat (first|exact Drawn0.refl _|apply Drawn0.step)⟩
       ·rw [if_neg c7] at H
        exact absurd H (by simp)
      ·rw [if_neg c6] at H
       exact absurd H (by simp)
     ·rw [if_neg c5] at H
      exact absurd H (by simp)
    ·rw [if_neg c4] at H
     have c4b0:decide (0≤x5_1)=false:=decide_eq_false c4
     clear c4
     obtain rfl:=Option.some.inj H
     go_wp2
     repeat (go_quiet (fail); try go_wp2)
     go_ret
     exact ⟨by first|rfl|(simp; done)|(simp [*]; done),by repeat (first|exact Drawn0.refl _|apply Drawn0.step)⟩
 ·rw [if_neg c3] at H
  have c3b0:((l0.length:Int) == (l1.length:Int))=false:=beq_eq_false_iff_ne.mpr c3
  have c3b1:((l0.length:Int) != (l1.length:Int))=true:=bne_iff_ne.mpr c3
  have c3b2:(l0.length == l1.length)=false:=by first|simpa using c3|(simp at c3 ⊢; omega)
  obtain rfl:=Option.some.inj H
  go_enter Tryz.func204,Tryz.ntmps204
  go_wp2
  repeat (go_quiet (fail); try go_wp2)
  go_ret
  exact ⟨by first|rfl|(simp; done)|(simp [*]; done),by repeat (first|exact Drawn0.refl _|apply Drawn0.step)⟩
end Go.Proofs.ZP
end
