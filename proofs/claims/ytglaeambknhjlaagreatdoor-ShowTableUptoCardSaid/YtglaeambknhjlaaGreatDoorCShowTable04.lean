/- Texts under the proof, joined by a program (prune.py): Q147. -/
import Derived.Test.YtglaeambknhjlaaGreatDoorCShowTable01
set_option linter.unusedVariables false
set_option linter.unusedSimpArgs false
set_option exponentiation.threshold 20001
set_option maxHeartbeats 8000000
set_option maxRecDepth 100000
section
namespace Go.Proofs.YtglaeambknhjlaaGreatDoor.Q
open Go.RowKit Go.Proofs.YtglaeambknhjlaaGreatDoorW.PrintWords Go.Proofs.YtglaeambknhjlaaGreatDoorW.PrintLast Go.Proofs.YtglaeambknhjlaaGreatDoorW.PrintMore
attribute [local go_sem] max2_int min2_int max_two min_two max_three min_three max_four min_four
mutual
noncomputable def cubitref25_Table.l0:Nat→List (List ByteArray)→List Int→Int→Option (ByteArray×Int)
 | 0,_,_,_=>none
 | k+1,x0,x4,x5=>if x5<(x0.length:Int) then (if 0≤x5 then (if ((rd_L4 x0 x5).length:Int)>100 then (some ((⟨#[]⟩:ByteArray),4)) else (cubitref25_Table.l1 k x0 x4 x5 0)) else (none)) else (cubitref25_Table.l2 k x0 x4 0 0)
noncomputable def cubitref25_Table.l1:Nat→List (List ByteArray)→List Int→Int→Int→Option (ByteArray×Int)
 | 0,_,_,_,_=>none
 | k+1,x0,x4,x5,x6=>if 0≤x5 then (if x5<(x0.length:Int) then (if x6<((rd_L4 x0 x5).length:Int) then (if x6=(x4.length:Int) then (if x4.length<17592186044416 then ((some (x4 ++ [0]:List Int)).bind fun y470=>(if 0≤x6 then (if x6<(y470.length:Int) then (if ((rdOf ByteArray.empty (rd_L4 x0 x5) x6).size:Int)>(rd y470 x6) then (cubitref25_Table.l1 k x0 (y470.set (x6:Int).toNat ((rdOf ByteArray.empty (rd_L4 x0 x5) x6).size:Int)) x5 (wrap64 (x6+1))) else (cubitref25_Table.l1 k x0 y470 x5 (wrap64 (x6+1)))) else (none)) else (none))) else (none)) else (if 0≤x6 then (if x6<(x4.length:Int) then (if ((rdOf ByteArray.empty (rd_L4 x0 x5) x6).size:Int)>(rd x4 x6) then (cubitref25_Table.l1 k x0 (x4.set (x6:Int).toNat ((rdOf ByteArray.empty (rd_L4 x0 x5) x6).size:Int)) x5 (wrap64 (x6+1))) else (cubitref25_Table.l1 k x0 x4 x5 (wrap64 (x6+1)))) else (none)) else (none))) else (cubitref25_Table.l0 k x0 x4 (wrap64 (x5+1)))) else (none)) else (none)
noncomputable def cubitref25_Table.l2:Nat→List (List ByteArray)→List Int→Int→Int→Option (ByteArray×Int)
 | 0,_,_,_,_=>none
 | k+1,x0,x4,x7,x8=>if x8<(x0.length:Int) then (cubitref25_Table.l3 k x0 x4 (wrap64 (x7+1)) x8 0) else (cubitref25_Table.l4 k x0 x4 ([]:List Int) 0)
noncomputable def cubitref25_Table.l3:Nat→List (List ByteArray)→List Int→Int→Int→Int→Option (ByteArray×Int)
 | 0,_,_,_,_,_=>none
 | k+1,x0,x4,x7,x8,x9=>if 0≤x8 then (if x8<(x0.length:Int) then (if x9<((rd_L4 x0 x8).length:Int) then (if x9<(wrap64 (((rd_L4 x0 x8).length:Int)-1)) then (if 0≤x9 then (if x9<(x4.length:Int) then (cubitref25_Table.l3 k x0 x4 (wrap64 ((wrap64 (x7+(rd x4 x9)))+2)) x8 (wrap64 (x9+1))) else (none)) else (none)) else (if 0≤x9 then (cubitref25_Table.l3 k x0 x4 (wrap64 (x7+((rdOf ByteArray.empty (rd_L4 x0 x8) x9).size:Int))) x8 (wrap64 (x9+1))) else (none))) else (if x7>65536 then (some ((⟨#[]⟩:ByteArray),4)) else (cubitref25_Table.l2 k x0 x4 x7 (wrap64 (x8+1))))) else (none)) else (none)
noncomputable def cubitref25_Table.l4:Nat→List (List ByteArray)→List Int→List Int→Int→Option (ByteArray×Int)
 | 0,_,_,_,_=>none
 | k+1,x0,x4,x10,x11=>if x11<(x0.length:Int) then (cubitref25_Table.l5 k x0 x4 x10 x11 0) else (some (strOfNums x10,0))
noncomputable def cubitref25_Table.l5:Nat→List (List ByteArray)→List Int→List Int→Int→Int→Option (ByteArray×Int)
 | 0,_,_,_,_,_=>none
 | k+1,x0,x4,x10,x11,x12=>if 0≤x11 then (if x11<(x0.length:Int) then (if x12<((rd_L4 x0 x11).length:Int) then (cubitref25_Table.l6 k x0 x4 x10 x11 x12 0) else (if x10.length<140737488355328 then (cubitref25_Table.l4 k x0 x4 (x10 ++ [10]) (wrap64 (x11+1))) else (none))) else (none)) else (none)
noncomputable def cubitref25_Table.l6:Nat→List (List ByteArray)→List Int→List Int→Int→Int→Int→Option (ByteArray×Int)
 | 0,_,_,_,_,_,_=>none
 | k+1,x0,x4,x10,x11,x12,x13=>if 0≤x11 then (if x11<(x0.length:Int) then (if 0≤x12 then (if x12<((rd_L4 x0 x11).length:Int) then (if x13<((rdOf ByteArray.empty (rd_L4 x0 x11) x12).size:Int) then (if 0≤x13 then (if (bt (rdOf ByteArray.empty (rd_L4 x0 x11) x12) x13)<32 then (some ((⟨#[]⟩:ByteArray),3)) else (cubitref25_Table.l6 k x0 x4 x10 x11 x12 (wrap64 (x13+1)))) else (none)) else (if x10.length+(rdOf ByteArray.empty (rd_L4 x0 x11) x12).size<140737488355328 then (cubitref25_Table.l7 k x0 x4 (x10++bytesOf (rdOf ByteArray.empty (rd_L4 x0 x11) x12)) x11 x12 ((rdOf ByteArray.empty (rd_L4 x0 x11) x12).size:Int)) else (none))) else (none)) else (none)) else (none)) else (none)
noncomputable def cubitref25_Table.l7:Nat→List (List ByteArray)→List Int→List Int→Int→Int→Int→Option (ByteArray×Int)
 | 0,_,_,_,_,_,_=>none
 | k+1,x0,x4,x10,x11,x12,x14=>if 0≤x12 then (if x12<(x4.length:Int) then (if x14<(wrap64 ((rd x4 x12)+2)) then (if 0≤x11 then (if x11<(x0.length:Int) then (if x12<(wrap64 (((rd_L4 x0 x11).length:Int)-1)) then (if x10.length<140737488355328 then (cubitref25_Table.l7 k x0 x4 (x10 ++ [32]) x11 x12 (wrap64 (x14+1))) else (none)) else (cubitref25_Table.l5 k x0 x4 x10 x11 (wrap64 (x12+1)))) else (none)) else (none)) else (cubitref25_Table.l5 k x0 x4 x10 x11 (wrap64 (x12+1)))) else (none)) else (none)
end
noncomputable def cubitref25_Table.f (k:Nat) (l0:List (List ByteArray)):Option (ByteArray×Int):=if (l0.length:Int)>1000 then (some ((⟨#[]⟩:ByteArray),4)) else (cubitref25_Table.l0 k l0 ([]:List Int) 0)
theorem cubitref25_Table.calls (k:Nat) (A0:Option Addr) (c0:Nat) (l0:List (List ByteArray)) (r1:ByteArray) (r2:Int) (w:World) (hr0:Kd.C (Kd.slice 9 Kd.string) w A0 l0.length l0) (hc0:l0.length≤c0) (h:cubitref25_Table.f k l0=some (r1,r2)) :
  Calls Tryz.prog 27 #[.slice A0 l0.length c0] w fun e w'=>e = .returned (.tuple #[.string r1,.int .i64 r2])∧Below w.heap.size w w':=by
 have HR0:=Aside0.mk hr0
 have HC0:=Aside0.mk hc0
 clear hr0 hc0
 have HB:=Aside0.mk (Below.refl w.heap.size w)
 have H:(if (l0.length:Int)>1000 then (some ((⟨#[]⟩:ByteArray),4)) else (cubitref25_Table.l0 k l0 ([]:List Int) 0))=some (r1,r2):=h
 clear h
 by_cases c2:(l0.length:Int)>1000
 ·rw [if_pos c2] at H
  have c2b0:decide (1000<(l0.length:Int))=true:=decide_eq_true c2
  have c2b1:decide (1000<l0.length)=true:=decide_eq_true (by omega)
  clear c2
  simp only [Option.some.injEq,Prod.mk.injEq] at H
  obtain ⟨rfl,rfl⟩:=H
  go_enter Tryz.func27,Tryz.ntmps27
  go_wp2
  repeat (go_quiet (fail); try go_wp2)
  go_ret2
  exact ⟨by first|rfl|(simp [errW_none,errW_some]<;>rfl)|(simp [*,errW_none,errW_some]<;>rfl),by repeat (first|(with_reducible first|exact HB.out|apply below_alloc|apply pw_below_drewN|apply below_drew1)|exact HB.out)⟩
 ·rw [if_neg c2] at H
  have c2b0:decide (1000<(l0.length:Int))=false:=decide_eq_false c2
  have c2b1:decide (1000<l0.length)=false:=decide_eq_false (by omega)
  clear c2
  have H':=Aside0.mk H
  clear H
  go_enter Tryz.func27,Tryz.ntmps27
  go_wp2
  repeat (go_quiet (fail); try go_wp2)
  go_loopg [4,5] k (fun kq v4 v5 w'=>∃ (x4_1:List Int) (x5_1:Int),v5 = .int .i64 x5_1∧Aside0 (cubitref25_Table.l0 kq l0 x4_1 x5_1=some (r1,r2))∧Aside0 (kq≤k)∧Aside0 (Kd.R (Kd.int .i64) 3 w' w.heap.size (fun _=>True) v4 x4_1)∧Aside0 (Below w.heap.size w w'))
  case atStart=>exact ⟨(([]:List Int)),(0),(by first|rfl|(simp; done)|(simp [*]; done)),H',⟨Nat.le_refl _⟩,⟨by first|exact Kd.R_nil _ _ _ _ _|exact Kd.N_nil _ _ _ _ _|exact Kd.V_nil _ _ _ _ _|exact Kd.Q_nil _ _ _ _ _|exact Kd.S_nil _ _ _ _ _⟩,⟨by repeat (first|(with_reducible first|exact HB.out|apply below_alloc|apply pw_below_drewN|apply below_drew1)|exact HB.out)⟩⟩
  case round =>
   clear H'
   try clear c2
   try clear c2b0
   try clear c2b1
   try clear p2
   obtain ⟨x4_1,x5_1,rfl,HA,HK1,HO_4,HB⟩:=hrel
   cases gk with
   | zero=>exact absurd HA.out (by simp [cubitref25_Table.l0])
   | succ k1 =>
    have H:=HA.out
    clear HA
    simp only [cubitref25_Table.l0] at H
    by_cases c3:x5_1<(l0.length:Int)
    ·rw [if_pos c3] at H
     have c3b0:decide (x5_1<(l0.length:Int))=true:=decide_eq_true c3
     clear c3
     by_cases c4:0≤x5_1
     ·rw [if_pos c4] at H
      have c4b0:decide (0≤x5_1)=true:=decide_eq_true c4
      clear c4
      by_cases c5:((rd_L4 l0 x5_1).length:Int)>100
      ·rw [if_pos c5] at H
       have c5b0:decide (100<((rd_L4 l0 x5_1).length:Int))=true:=decide_eq_true c5
       have c5b1:decide (100<(rd_L4 l0 x5_1).length)=true:=decide_eq_true (by omega)
       clear c5
       simp only [Option.some.injEq,Prod.mk.injEq] at H
       obtain ⟨rfl,rfl⟩:=H
       have p468:0≤(x5_1:Int):=of_decide_eq_true (by first|(with_reducible assumption)|assumption)
       have q468:x5_1<(l0.length:Int):=of_decide_eq_true (by first|(with_reducible assumption)|assumption)
       obtain ⟨ad468,A468_0,c468_0,e468,hx468_0,hl468_0,hi468_0⟩:=at_L4 HR0.out x5_1 p468 q468
       cases e468
       replace hx468_0:=(HB.out.cell (World.block_lt_of_cell? w _ hx468_0)).trans hx468_0
       have HR468_0:=Aside0.mk hi468_0
       have HC468_0:=Aside0.mk hl468_0
       clear hi468_0 hl468_0
       replace p468:=eq_true p468
       replace q468:=eq_true q468
       go_wp2
       repeat (go_quiet (fail); try go_wp2)
       go_ret2
       exact ⟨by first|rfl|(simp [errW_none,errW_some]<;>rfl)|(simp [*,errW_none,errW_some]<;>rfl),by repeat (first|(with_reducible first|exact HB.out|apply below_alloc|apply pw_below_drewN|apply below_drew1)|exact HB.out)⟩
      ·rw [if_neg c5] at H
       have c5b0:decide (100<((rd_L4 l0 x5_1).length:Int))=false:=decide_eq_false c5
       have c5b1:decide (100<(rd_L4 l0 x5_1).length)=false:=decide_eq_false (by omega)
       clear c5
       have H':=Aside0.mk H
       clear H
       have p468:0≤(x5_1:Int):=of_decide_eq_true (by first|(with_reducible assumption)|assumption)
       have q468:x5_1<(l0.length:Int):=of_decide_eq_true (by first|(with_reducible assumption)|assumption)
       obtain ⟨ad468,A468_0,c468_0,e468,hx468_0,hl468_0,hi468_0⟩:=at_L4 HR0.out x5_1 p468 q468
       cases e468
       replace hx468_0:=(HB.out.cell (World.block_lt_of_cell? w _ hx468_0)).trans hx468_0
       have HR468_0:=Aside0.mk hi468_0
       have HC468_0:=Aside0.mk hl468_0
       clear hi468_0 hl468_0
       replace p468:=eq_true p468
       replace q468:=eq_true q468
       go_wp2
       repeat (go_quiet (fail); try go_wp2)
       go_loopg [4,6] k1 (fun kq v4 v6 w'=>∃ (x4_2:List Int) (x6_2:Int),v6 = .int .i64 x6_2∧Aside0 (cubitref25_Table.l1 kq l0 x4_2 x5_1 x6_2=some (r1,r2))∧Aside0 (kq≤k1)∧Aside0 (Kd.R (Kd.int .i64) 3 w' w.heap.size (fun _=>True) v4 x4_2)∧Aside0 (Below w.heap.size w w'))
       case atStart=>exact ⟨(x4_1),(0),(by first|rfl|(simp; done)|(simp [*]; done)),H',⟨Nat.le_refl _⟩,⟨by (with_reducible repeat (first|apply Kd.R_alloc|apply Kd.R_drewN|apply Kd.R_drew)); exact HO_4.out⟩,⟨by repeat (first|(with_reducible first|exact HB.out|apply below_alloc|apply pw_below_drewN|apply below_drew1)|exact HB.out)⟩⟩
       case round =>
        clear H'
        try clear c2
        try clear c2b0
        try clear c2b1
        try clear p2
        try clear c3
        try clear c3b0
        try clear c4
        try clear c4b0
        try clear p4
        try clear q4
        try clear hx4
        try clear c5
        try clear c5b0
        try clear c5b1
        try clear hx468_0
        try clear p2
        try clear p468
        try clear q468
        obtain ⟨x4_2,x6_2,rfl,HA,HK2,HO_4,HB⟩:=hrel
        cases gk with
        | zero=>exact absurd HA.out (by simp [cubitref25_Table.l1])
        | succ k2 =>
         have H:=HA.out
         clear HA
         simp only [cubitref25_Table.l1] at H
         by_cases c6:0≤x5_1
         ·rw [if_pos c6] at H
          have c6b0:decide (0≤x5_1)=true:=decide_eq_true c6
          clear c6
          by_cases c7:x5_1<(l0.length:Int)
          ·rw [if_pos c7] at H
           have c7b0:decide (x5_1<(l0.length:Int))=true:=decide_eq_true c7
           clear c7
           by_cases c8:x6_2<((rd_L4 l0 x5_1).length:Int)
           ·rw [if_pos c8] at H
            have c8b0:decide (x6_2<((rd_L4 l0 x5_1).length:Int))=true:=decide_eq_true c8
            clear c8
            by_cases c9:x6_2=(x4_2.length:Int)
            ·rw [if_pos c9] at H
             have c9b0:(x6_2 == (x4_2.length:Int))=true:=beq_iff_eq.mpr c9
             have c9b1:(x6_2 != (x4_2.length:Int))=false:=bne_eq_false_iff_eq.mpr c9
             clear c9
             by_cases c10:x4_2.length<17592186044416
             ·rw [if_pos c10] at H
              have LMc10:=Aside0.mk c10
              clear c10
              obtain ⟨y470,hy470⟩:∃ y_:List Int,y_=(x4_2 ++ [0]):=⟨_,rfl⟩
              replace H:(if 0≤x6_2 then (if x6_2<(y470.length:Int) then (if ((rdOf ByteArray.empty (rd_L4 l0 x5_1) x6_2).size:Int)>(rd y470 x6_2) then (cubitref25_Table.l1 k2 l0 (y470.set (x6_2:Int).toNat ((rdOf ByteArray.empty (rd_L4 l0 x5_1) x6_2).size:Int)) x5_1 (wrap64 (x6_2+1))) else (cubitref25_Table.l1 k2 l0 y470 x5_1 (wrap64 (x6_2+1)))) else (none)) else (none))=some (r1,r2):=by first|(rw [hy470]; with_reducible exact H)|(have H2_:=(Option.bind_some _ _).symm.trans H; rw [hy470]; with_reducible exact H2_)|(have H2_:=(Option.bind_some _ _).symm.trans H; with_reducible exact H2_)|with_reducible exact H|(rw [hy470]; exact H)|exact H
              have Ny470:=Aside0.mk hy470
              clear hy470
              by_cases c11:0≤x6_2
              ·rw [if_pos c11] at H
               have c11b0:decide (0≤x6_2)=true:=decide_eq_true c11
               clear c11
               by_cases c12:x6_2<(y470.length:Int)
               ·rw [if_pos c12] at H
                have c12b0:decide (x6_2<(y470.length:Int))=true:=decide_eq_true c12
                clear c12
                by_cases c13:((rdOf ByteArray.empty (rd_L4 l0 x5_1) x6_2).size:Int)>(rd y470 x6_2)
                ·rw [if_pos c13] at H
                 have c13b0:decide ((rd y470 x6_2)<((rdOf ByteArray.empty (rd_L4 l0 x5_1) x6_2).size:Int))=true:=decide_eq_true c13
                 clear c13
                 obtain ⟨y478,hy478⟩:∃ y_:List Int,y_=(y470.set (x6_2:Int).toNat ((rdOf ByteArray.empty (rd_L4 l0 x5_1) x6_2).size:Int)):=⟨_,rfl⟩
                 replace H:(cubitref25_Table.l1 k2 l0 y478 x5_1 (wrap64 (x6_2+1)))=some (r1,r2):=by first|(rw [hy478]; with_reducible exact H)|(have H2_:=(Option.bind_some _ _).symm.trans H; rw [hy478]; with_reducible exact H2_)|(have H2_:=(Option.bind_some _ _).symm.trans H; with_reducible exact H2_)|with_reducible exact H|(rw [hy478]; exact H)|exact H
                 have Ny478:=Aside0.mk hy478
                 clear hy478
                 have H':=Aside0.mk H
                 clear H
                 have p469:0≤(x5_1:Int):=of_decide_eq_true (by first|(with_reducible assumption)|assumption)
                 have q469:x5_1<(l0.length:Int):=of_decide_eq_true (by first|(with_reducible assumption)|assumption)
                 obtain ⟨ad469,A469_0,c469_0,e469,hx469_0,hl469_0,hi469_0⟩:=at_L4 HR0.out x5_1 p469 q469
                 obtain rfl:ad468=ad469:=(by injection e469)
                 replace hx469_0:=(HB.out.cell (World.block_lt_of_cell? w _ hx469_0)).trans hx469_0
                 have HR469_0:=Aside0.mk hi469_0
                 have HC469_0:=Aside0.mk hl469_0
                 clear hi469_0 hl469_0
                 replace p469:=eq_true p469
                 replace q469:=eq_true q469
                 obtain ⟨Ao15,co15,eo15⟩:=Kd.R_slice HO_4.out
                 subst eo15
                 go_wp2_with (first|((with_reducible refine gate_builtin (b:=.append) (xs:=#[.tmp 43,.tmp 44]) rfl ?_); (try (refine gate_guard (by rfl) ?_; dsimp only)); at_builtin; refine Kd.R_append (Kd.int .i64) (w0:=w) w.heap.size rfl (.tmp 43) (.tmp 44) 92 3 (.int .i64 0) 8 rfl Tryz.underlying92 info3 rfl (by decide) (by omega) (.slice Ao15 x4_2.length co15) x4_2 0 [.int .i64 0] (fun _=>True) (fun _=>False) rfl rfl ?aP (fun _ hk=>hk.elim) ?aF ?aO ?aB ?aS ?aL ?_; (case aP=>exact rfl); (case aB=>exact (by repeat (first|(with_reducible first|exact HB.out|apply below_alloc|apply pw_below_drewN|apply below_drew1)|exact HB.out))); (case aF=>exact (fun _ _=>trivial)); (case aO=>exact (by (with_reducible repeat (first|apply Kd.R_alloc|apply Kd.R_drewN|apply Kd.R_drew)); exact HO_4.out)); (case aS=>exact (below_size (by repeat (first|(with_reducible first|exact HB.out|apply below_alloc|apply pw_below_drewN|apply below_drew1)|exact HB.out)))); (case aL=>have:=LMc10.out; omega); intro v471 w16 ho hb hg hat; rw [←Ny470.out] at ho; have n0_:=Aside0.mk (hb); have n1_:=Aside0.mk (ho); clear HB; clear HO_4; have HB:=n0_; have HO472:=n1_; clear n0_ n1_; clear ho hb hg hat; have p473:0≤(x5_1:Int):=of_decide_eq_true (by first|(with_reducible assumption)|assumption); have q473:x5_1<(l0.length:Int):=of_decide_eq_true (by first|(with_reducible assumption)|assumption); obtain ⟨ad473,A473_0,c473_0,e473,hx473_0,hl473_0,hi473_0⟩:=at_L4 HR0.out x5_1 p473 q473; obtain rfl:ad468=ad473:=(by injection e473); replace hx473_0:=(HB.out.cell (World.block_lt_of_cell? w _ hx473_0)).trans hx473_0; have HR473_0:=Aside0.mk hi473_0; have HC473_0:=Aside0.mk hl473_0; clear hi473_0 hl473_0; replace p473:=eq_true p473; replace q473:=eq_true q473; have p474:0≤(x6_2:Int):=of_decide_eq_true (by first|(with_reducible assumption)|assumption); have q474:x6_2<((rd_L4 l0 x5_1).length:Int):=of_decide_eq_true (by first|(with_reducible assumption)|assumption); obtain ⟨ad474,e474,hx474_0⟩:=Kd.at_string HR473_0.out x6_2 p474 q474; cases e474; replace hx474_0:=(HB.out.cell (World.block_lt_of_cell? w _ hx474_0)).trans hx474_0; replace p474:=eq_true p474; replace q474:=eq_true q474; obtain ⟨Ao17,co17,eo17⟩:=Kd.R_slice HO472.out; subst eo17; have p475:0≤(x6_2:Int):=of_decide_eq_true (by first|(with_reducible assumption)|assumption); have q475:x6_2<(y470.length:Int):=of_decide_eq_true (by first|(with_reducible assumption)|assumption); obtain ⟨ad475,e475,hx475_0⟩:=Kd.at_int (Kd.R_reads' HO472.out).2.2 x6_2 p475 q475; cases e475; replace p475:=eq_true p475; replace q475:=eq_true q475; have p476:0≤(x5_1:Int):=of_decide_eq_true (by first|(with_reducible assumption)|assumption); have q476:x5_1<(l0.length:Int):=of_decide_eq_true (by first|(with_reducible assumption)|assumption); obtain ⟨ad476,A476_0,c476_0,e476,hx476_0,hl476_0,hi476_0⟩:=at_L4 HR0.out x5_1 p476 q476; obtain rfl:ad468=ad476:=(by injection e476); replace hx476_0:=(HB.out.cell (World.block_lt_of_cell? w _ hx476_0)).trans hx476_0; have HR476_0:=Aside0.mk hi476_0; have HC476_0:=Aside0.mk hl476_0; clear hi476_0 hl476_0; replace p476:=eq_true p476; replace q476:=eq_true q476; have ea_:=Option.some.inj (hx473_0.symm.trans hx476_0); injection ea_ with ea_ en_ ec_; subst ea_; subst ec_; clear en_; have p477:0≤(x6_2:Int):=of_decide_eq_true (by first|(with_reducible assumption)|assumption); have q477:x6_2<((rd_L4 l0 x5_1).length:Int):=of_decide_eq_true (by first|(with_reducible assumption)|assumption); obtain ⟨ad477,e477,hx477_0⟩:=Kd.at_string HR476_0.out x6_2 p477 q477; cases e477; replace hx477_0:=(HB.out.cell (World.block_lt_of_cell? w _ hx477_0)).trans hx477_0; replace p477:=eq_true p477; replace q477:=eq_true q477; have p14:0≤(x6_2:Int):=of_decide_eq_true (by first|(with_reducible assumption)|assumption); have q14:(x6_2:Int)<((y470.length:Int):Int):=of_decide_eq_true (by first|(with_reducible assumption)|assumption); obtain ⟨go14,co14,eo14,gb14,gl14,cl14,HG14⟩:=Kd.R_form HO472.out (by omega); (first|cases eo14|(injection eo14 with ea_ en_ ec_; (first|subst ea_|(injection ea_ with ea_; subst ea_)); subst ec_; clear en_)); have GB14:=Aside0.mk gb14; have GG14:=Aside0.mk HG14; clear gb14 gl14 HG14; (first|simp only [add_plain] at hx475_0|skip); obtain ⟨hx14_0,hf14_0⟩:=Kd.R_celln 0 HO472.out (x6_2:Int) p14 q14; replace p14:=eq_true p14; replace q14:=eq_true q14; obtain ⟨hy18_,hz18_⟩:=Kd.R_celln 0 HO472.out (x6_2:Int) (of_decide_eq_true (by first|(with_reducible assumption)|assumption)) (of_decide_eq_true (by first|(with_reducible assumption)|assumption)); have HP18:=Kd.R_putg HO472.out (x6_2:Int) ((rdOf ByteArray.empty (rd_L4 l0 x5_1) x6_2).size:Int))|((with_reducible refine gate_store (t:=3) (p:=69) rfl ?_); (try (rw [drewN_self w16]; generalize hq_:World.drewN w16 _=w16; have n0_:=Aside0.mk (Kd.R_at hq_ HO472.out); have n1_:=Aside0.mk (below_at hq_ HB.out); clear hq_ HO472 HB; have HO472:=n0_; have HB:=n1_; clear n0_ n1_; (try (obtain ⟨hy18_,hz18_⟩:=Kd.R_celln 0 HO472.out (x6_2:Int) (of_decide_eq_true (by first|(with_reducible assumption)|assumption)) (of_decide_eq_true (by first|(with_reducible assumption)|assumption)))); (try (have HP18:=Kd.R_putg HO472.out (x6_2:Int) ((rdOf ByteArray.empty (rd_L4 l0 x5_1) x6_2).size:Int))))); refine store_event (t:=3) (p:=69) (v:=?vo_w19) (w1:=(w16.setCell ⟨go14,(x6_2:Int).toNat,none⟩ (.int .i64 ((rdOf ByteArray.empty (rd_L4 l0 x5_1) x6_2).size:Int)))) ?hg ?ho ?hn ?hr ?_; (case ho=>rfl); (case hg=>rfl); (case hn=>rfl); (case hr=>first|(go_simp; done)|(go_simp; rfl)); intro w19 hw; have hg:w16.grownBy w19 (some go14):=(by rw [hw]; exact HP18.2); have hp_:Kd.R (Kd.int .i64) 3 w19 w.heap.size (fun _=>True) (.slice (some ⟨go14,0,none⟩) y470.length co17) y478:=(by rw [hw,Ny478.out]; exact HP18.1); clear HP18; have n0_:=Aside0.mk (hp_); have n1_:=Aside0.mk ((by rw [hw]; exact below_set (HB.out) GB14.out:Below w.heap.size w w19)); clear HO472; clear HB; have HO472:=n0_; have HB:=n1_; clear n0_ n1_; clear hg hw hp_))
                 repeat (go_quiet (first|((with_reducible refine gate_builtin (b:=.append) (xs:=#[.tmp 43,.tmp 44]) rfl ?_); (try (refine gate_guard (by rfl) ?_; dsimp only)); at_builtin; refine Kd.R_append (Kd.int .i64) (w0:=w) w.heap.size rfl (.tmp 43) (.tmp 44) 92 3 (.int .i64 0) 8 rfl Tryz.underlying92 info3 rfl (by decide) (by omega) (.slice Ao15 x4_2.length co15) x4_2 0 [.int .i64 0] (fun _=>True) (fun _=>False) rfl rfl ?aP (fun _ hk=>hk.elim) ?aF ?aO ?aB ?aS ?aL ?_; (case aP=>exact rfl); (case aB=>exact (by repeat (first|(with_reducible first|exact HB.out|apply below_alloc|apply pw_below_drewN|apply below_drew1)|exact HB.out))); (case aF=>exact (fun _ _=>trivial)); (case aO=>exact (by (with_reducible repeat (first|apply Kd.R_alloc|apply Kd.R_drewN|apply Kd.R_drew)); exact HO_4.out)); (case aS=>exact (below_size (by repeat (first|(with_reducible first|exact HB.out|apply below_alloc|apply pw_below_drewN|apply below_drew1)|exact HB.out)))); (case aL=>have:=LMc10.out; omega); intro v471 w16 ho hb hg hat; rw [←Ny470.out] at ho; have n0_:=Aside0.mk (hb); have n1_:=Aside0.mk (ho); clear HB; clear HO_4; have HB:=n0_; have HO472:=n1_; clear n0_ n1_; clear ho hb hg hat; have p473:0≤(x5_1:Int):=of_decide_eq_true (by first|(with_reducible assumption)|assumption); have q473:x5_1<(l0.length:Int):=of_decide_eq_true (by first|(with_reducible assumption)|assumption); obtain ⟨ad473,A473_0,c473_0,e473,hx473_0,hl473_0,hi473_0⟩:=at_L4 HR0.out x5_1 p473 q473; obtain rfl:ad468=ad473:=(by injection e473); replace hx473_0:=(HB.out.cell (World.block_lt_of_cell? w _ hx473_0)).trans hx473_0; have HR473_0:=Aside0.mk hi473_0; have HC473_0:=Aside0.mk hl473_0; clear hi473_0 hl473_0; replace p473:=eq_true p473; replace q473:=eq_true q473; have p474:0≤(x6_2:Int):=of_decide_eq_true (by first|(with_reducible assumption)|assumption); have q474:x6_2<((rd_L4 l0 x5_1).length:Int):=of_decide_eq_true (by first|(with_reducible assumption)|assumption); obtain ⟨ad474,e474,hx474_0⟩:=Kd.at_string HR473_0.out x6_2 p474 q474; cases e474; replace hx474_0:=(HB.out.cell (World.block_lt_of_cell? w _ hx474_0)).trans hx474_0; replace p474:=eq_true p474; replace q474:=eq_true q474; obtain ⟨Ao17,co17,eo17⟩:=Kd.R_slice HO472.out; subst eo17; have p475:0≤(x6_2:Int):=of_decide_eq_true (by first|(with_reducible assumption)|assumption); have q475:x6_2<(y470.length:Int):=of_decide_eq_true (by first|(with_reducible assumption)|assumption); obtain ⟨ad475,e475,hx475_0⟩:=Kd.at_int (Kd.R_reads' HO472.out).2.2 x6_2 p475 q475; cases e475; replace p475:=eq_true p475; replace q475:=eq_true q475; have p476:0≤(x5_1:Int):=of_decide_eq_true (by first|(with_reducible assumption)|assumption); have q476:x5_1<(l0.length:Int):=of_decide_eq_true (by first|(with_reducible assumption)|assumption); obtain ⟨ad476,A476_0,c476_0,e476,hx476_0,hl476_0,hi476_0⟩:=at_L4 HR0.out x5_1 p476 q476; obtain rfl:ad468=ad476:=(by injection e476); replace hx476_0:=(HB.out.cell (World.block_lt_of_cell? w _ hx476_0)).trans hx476_0; have HR476_0:=Aside0.mk hi476_0; have HC476_0:=Aside0.mk hl476_0; clear hi476_0 hl476_0; replace p476:=eq_true p476; replace q476:=eq_true q476; have ea_:=Option.some.inj (hx473_0.symm.trans hx476_0); injection ea_ with ea_ en_ ec_; subst ea_; subst ec_; clear en_; have p477:0≤(x6_2:Int):=of_decide_eq_true (by first|(with_reducible assumption)|assumption); have q477:x6_2<((rd_L4 l0 x5_1).length:Int):=of_decide_eq_true (by first|(with_reducible assumption)|assumption); obtain ⟨ad477,e477,hx477_0⟩:=Kd.at_string HR476_0.out x6_2 p477 q477; cases e477; replace hx477_0:=(HB.out.cell (World.block_lt_of_cell? w _ hx477_0)).trans hx477_0; replace p477:=eq_true p477; replace q477:=eq_true q477; have p14:0≤(x6_2:Int):=of_decide_eq_true (by first|(with_reducible assumption)|assumption); have q14:(x6_2:Int)<((y470.length:Int):Int):=of_decide_eq_true (by first|(with_reducible assumption)|assumption); obtain ⟨go14,co14,eo14,gb14,gl14,cl14,HG14⟩:=Kd.R_form HO472.out (by omega); (first|cases eo14|(injection eo14 with ea_ en_ ec_; (first|subst ea_|(injection ea_ with ea_; subst ea_)); subst ec_; clear en_)); have GB14:=Aside0.mk gb14; have GG14:=Aside0.mk HG14; clear gb14 gl14 HG14; (first|simp only [add_plain] at hx475_0|skip); obtain ⟨hx14_0,hf14_0⟩:=Kd.R_celln 0 HO472.out (x6_2:Int) p14 q14; replace p14:=eq_true p14; replace q14:=eq_true q14; obtain ⟨hy18_,hz18_⟩:=Kd.R_celln 0 HO472.out (x6_2:Int) (of_decide_eq_true (by first|(with_reducible assumption)|assumption)) (of_decide_eq_true (by first|(with_reducible assumption)|assumption)); have HP18:=Kd.R_putg HO472.out (x6_2:Int) ((rdOf ByteArray.empty (rd_L4 l0 x5_1) x6_2).size:Int))|((with_reducible refine gate_store (t:=3) (p:=69) rfl ?_); (try (rw [drewN_self w16]; generalize hq_:World.drewN w16 _=w16; have n0_:=Aside0.mk (Kd.R_at hq_ HO472.out); have n1_:=Aside0.mk (below_at hq_ HB.out); clear hq_ HO472 HB; have HO472:=n0_; have HB:=n1_; clear n0_ n1_; (try (obtain ⟨hy18_,hz18_⟩:=Kd.R_celln 0 HO472.out (x6_2:Int) (of_decide_eq_true (by first|(with_reducible assumption)|assumption)) (of_decide_eq_true (by first|(with_reducible assumption)|assumption)))); (try (have HP18:=Kd.R_putg HO472.out (x6_2:Int) ((rdOf ByteArray.empty (rd_L4 l0 x5_1) x6_2).size:Int))))); refine store_event (t:=3) (p:=69) (v:=?vo_w19) (w1:=(w16.setCell ⟨go14,(x6_2:Int).toNat,none⟩ (.int .i64 ((rdOf ByteArray.empty (rd_L4 l0 x5_1) x6_2).size:Int)))) ?hg ?ho ?hn ?hr ?_; (case ho=>rfl); (case hg=>rfl); (case hn=>rfl); (case hr=>first|(go_simp; done)|(go_simp; rfl)); intro w19 hw; have hg:w16.grownBy w19 (some go14):=(by rw [hw]; exact HP18.2); have hp_:Kd.R (Kd.int .i64) 3 w19 w.heap.size (fun _=>True) (.slice (some ⟨go14,0,none⟩) y470.length co17) y478:=(by rw [hw,Ny478.out]; exact HP18.1); clear HP18; have n0_:=Aside0.mk (hp_); have n1_:=Aside0.mk ((by rw [hw]; exact below_set (HB.out) GB14.out:Below w.heap.size w w19)); clear HO472; clear HB; have HO472:=n0_; have HB:=n1_; clear n0_ n1_; clear hg hw hp_)); try go_wp2_with (first|((with_reducible refine gate_builtin (b:=.append) (xs:=#[.tmp 43,.tmp 44]) rfl ?_); (try (refine gate_guard (by rfl) ?_; dsimp only)); at_builtin; refine Kd.R_append (Kd.int .i64) (w0:=w) w.heap.size rfl (.tmp 43) (.tmp 44) 92 3 (.int .i64 0) 8 rfl Tryz.underlying92 info3 rfl (by decide) (by omega) (.slice Ao15 x4_2.length co15) x4_2 0 [.int .i64 0] (fun _=>True) (fun _=>False) rfl rfl ?aP (fun _ hk=>hk.elim) ?aF ?aO ?aB ?aS ?aL ?_; (case aP=>exact rfl); (case aB=>exact (by repeat (first|(with_reducible first|exact HB.out|apply below_alloc|apply pw_below_drewN|apply below_drew1)|exact HB.out))); (case aF=>exact (fun _ _=>trivial)); (case aO=>exact (by (with_reducible repeat (first|apply Kd.R_alloc|apply Kd.R_drewN|apply Kd.R_drew)); exact HO_4.out)); (case aS=>exact (below_size (by repeat (first|(with_reducible first|exact HB.out|apply below_alloc|apply pw_below_drewN|apply below_drew1)|exact HB.out)))); (case aL=>have:=LMc10.out; omega); intro v471 w16 ho hb hg hat; rw [←Ny470.out] at ho; have n0_:=Aside0.mk (hb); have n1_:=Aside0.mk (ho); clear HB; clear HO_4; have HB:=n0_; have HO472:=n1_; clear n0_ n1_; clear ho hb hg hat; have p473:0≤(x5_1:Int):=of_decide_eq_true (by first|(with_reducible assumption)|assumption); have q473:x5_1<(l0.length:Int):=of_decide_eq_true (by first|(with_reducible assumption)|assumption); obtain ⟨ad473,A473_0,c473_0,e473,hx473_0,hl473_0,hi473_0⟩:=at_L4 HR0.out x5_1 p473 q473; obtain rfl:ad468=ad473:=(by injection e473); replace hx473_0:=(HB.out.cell (World.block_lt_of_cell? w _ hx473_0)).trans hx473_0; have HR473_0:=Aside0.mk hi473_0; have HC473_0:=Aside0.mk hl473_0; clear hi473_0 hl473_0; replace p473:=eq_true p473; replace q473:=eq_true q473; have p474:0≤(x6_2:Int):=of_decide_eq_true (by first|(with_reducible assumption)|assumption); have q474:x6_2<((rd_L4 l0 x5_1).length:Int):=of_decide_eq_true (by first|(with_reducible assumption)|assumption); obtain ⟨ad474,e474,hx474_0⟩:=Kd.at_string HR473_0.out x6_2 p474 q474; cases e474; replace hx474_0:=(HB.out.cell (World.block_lt_of_cell? w _ hx474_0)).trans hx474_0; replace p474:=eq_true p474; replace q474:=eq_true q474; obtain ⟨Ao17,co17,eo17⟩:=Kd.R_slice HO472.out; subst eo17; have p475:0≤(x6_2:Int):=of_decide_eq_true (by first|(with_reducible assumption)|assumption); have q475:x6_2<(y470.length:Int):=of_decide_eq_true (by first|(with_reducible assumption)|assumption); obtain ⟨ad475,e475,hx475_0⟩:=Kd.at_int (Kd.R_reads' HO472.out).2.2 x6_2 p475 q475; cases e475; replace p475:=eq_true p475; replace q475:=eq_true q475; have p476:0≤(x5_1:Int):=of_decide_eq_true (by first|(with_reducible assumption)|assumption); have q476:x5_1<(l0.length:Int):=of_decide_eq_true (by first|(with_reducible assumption)|assumption); obtain ⟨ad476,A476_0,c476_0,e476,hx476_0,hl476_0,hi476_0⟩:=at_L4 HR0.out x5_1 p476 q476; obtain rfl:ad468=ad476:=(by injection e476); replace hx476_0:=(HB.out.cell (World.block_lt_of_cell? w _ hx476_0)).trans hx476_0; have HR476_0:=Aside0.mk hi476_0; have HC476_0:=Aside0.mk hl476_0; clear hi476_0 hl476_0; replace p476:=eq_true p476; replace q476:=eq_true q476; have ea_:=Option.some.inj (hx473_0.symm.trans hx476_0); injection ea_ with ea_ en_ ec_; subst ea_; subst ec_; clear en_; have p477:0≤(x6_2:Int):=of_decide_eq_true (by first|(with_reducible assumption)|assumption); have q477:x6_2<((rd_L4 l0 x5_1).length:Int):=of_decide_eq_true (by first|(with_reducible assumption)|assumption); obtain ⟨ad477,e477,hx477_0⟩:=Kd.at_string HR476_0.out x6_2 p477 q477; cases e477; replace hx477_0:=(HB.out.cell (World.block_lt_of_cell? w _ hx477_0)).trans hx477_0; replace p477:=eq_true p477; replace q477:=eq_true q477; have p14:0≤(x6_2:Int):=of_decide_eq_true (by first|(with_reducible assumption)|assumption); have q14:(x6_2:Int)<((y470.length:Int):Int):=of_decide_eq_true (by first|(with_reducible assumption)|assumption); obtain ⟨go14,co14,eo14,gb14,gl14,cl14,HG14⟩:=Kd.R_form HO472.out (by omega); (first|cases eo14|(injection eo14 with ea_ en_ ec_; (first|subst ea_|(injection ea_ with ea_; subst ea_)); subst ec_; clear en_)); have GB14:=Aside0.mk gb14; have GG14:=Aside0.mk HG14; clear gb14 gl14 HG14; (first|simp only [add_plain] at hx475_0|skip); obtain ⟨hx14_0,hf14_0⟩:=Kd.R_celln 0 HO472.out (x6_2:Int) p14 q14; replace p14:=eq_true p14; replace q14:=eq_true q14; obtain ⟨hy18_,hz18_⟩:=Kd.R_celln 0 HO472.out (x6_2:Int) (of_decide_eq_true (by first|(with_reducible assumption)|assumption)) (of_decide_eq_true (by first|(with_reducible assumption)|assumption)); have HP18:=Kd.R_putg HO472.out (x6_2:Int) ((rdOf ByteArray.empty (rd_L4 l0 x5_1) x6_2).size:Int))|((with_reducible refine gate_store (t:=3) (p:=69) rfl ?_); (try (rw [drewN_self w16]; generalize hq_:World.drewN w16 _=w16; have n0_:=Aside0.mk (Kd.R_at hq_ HO472.out); have n1_:=Aside0.mk (below_at hq_ HB.out); clear hq_ HO472 HB; have HO472:=n0_; have HB:=n1_; clear n0_ n1_; (try (obtain ⟨hy18_,hz18_⟩:=Kd.R_celln 0 HO472.out (x6_2:Int) (of_decide_eq_true (by first|(with_reducible assumption)|assumption)) (of_decide_eq_true (by first|(with_reducible assumption)|assumption)))); (try (have HP18:=Kd.R_putg HO472.out (x6_2:Int) ((rdOf ByteArray.empty (rd_L4 l0 x5_1) x6_2).size:Int))))); refine store_event (t:=3) (p:=69) (v:=?vo_w19) (w1:=(w16.setCell ⟨go14,(x6_2:Int).toNat,none⟩ (.int .i64 ((rdOf ByteArray.empty (rd_L4 l0 x5_1) x6_2).size:Int)))) ?hg ?ho ?hn ?hr ?_; (case ho=>rfl); (case hg=>rfl); (case hn=>rfl); (case hr=>first|(go_simp; done)|(go_simp; rfl)); intro w19 hw; have hg:w16.grownBy w19 (some go14):=(by rw [hw]; exact HP18.2); have hp_:Kd.R (Kd.int .i64) 3 w19 w.heap.size (fun _=>True) (.slice (some ⟨go14,0,none⟩) y470.length co17) y478:=(by rw [hw,Ny478.out]; exact HP18.1); clear HP18; have n0_:=Aside0.mk (hp_); have n1_:=Aside0.mk ((by rw [hw]; exact below_set (HB.out) GB14.out:Below w.heap.size w w19)); clear HO472; clear HB; have HO472:=n0_; have HB:=n1_; clear n0_ n1_; clear hg hw hp_)))
                 go_roundg k2
                 case measure=>have:=HK1.out; have:=HK2.out; omega
                 case rel=>exact ⟨(y478),(wrap64 (x6_2+1)),(by first|rfl|(simp; done)|(simp [*]; done)),H',⟨by have:=HK1.out; have:=HK2.out; omega⟩,⟨by (with_reducible repeat (first|apply Kd.R_alloc|apply Kd.R_drewN|apply Kd.R_drew)); exact HO472.out⟩,⟨by repeat (first|(with_reducible first|exact HB.out|apply below_alloc|apply pw_below_drewN|apply below_drew1)|exact HB.out)⟩⟩
                ·rw [if_neg c13] at H
                 have c13b0:decide ((rd y470 x6_2)<((rdOf ByteArray.empty (rd_L4 l0 x5_1) x6_2).size:Int))=false:=decide_eq_false c13
                 clear c13
                 have H':=Aside0.mk H
                 clear H
                 have p469:0≤(x5_1:Int):=of_decide_eq_true (by first|(with_reducible assumption)|assumption)
                 have q469:x5_1<(l0.length:Int):=of_decide_eq_true (by first|(with_reducible assumption)|assumption)
                 obtain ⟨ad469,A469_0,c469_0,e469,hx469_0,hl469_0,hi469_0⟩:=at_L4 HR0.out x5_1 p469 q469
                 obtain rfl:ad468=ad469:=(by injection e469)
                 replace hx469_0:=(HB.out.cell (World.block_lt_of_cell? w _ hx469_0)).trans hx469_0
                 have HR469_0:=Aside0.mk hi469_0
                 have HC469_0:=Aside0.mk hl469_0
                 clear hi469_0 hl469_0
                 replace p469:=eq_true p469
                 replace q469:=eq_true q469
                 obtain ⟨Ao20,co20,eo20⟩:=Kd.R_slice HO_4.out
                 subst eo20
                 go_wp2_with (first|((with_reducible refine gate_builtin (b:=.append) (xs:=#[.tmp 43,.tmp 44]) rfl ?_); (try (refine gate_guard (by rfl) ?_; dsimp only)); at_builtin; refine Kd.R_append (Kd.int .i64) (w0:=w) w.heap.size rfl (.tmp 43) (.tmp 44) 92 3 (.int .i64 0) 8 rfl Tryz.underlying92 info3 rfl (by decide) (by omega) (.slice Ao20 x4_2.length co20) x4_2 0 [.int .i64 0] (fun _=>True) (fun _=>False) rfl rfl ?aP (fun _ hk=>hk.elim) ?aF ?aO ?aB ?aS ?aL ?_; (case aP=>exact rfl); (case aB=>exact (by repeat (first|(with_reducible first|exact HB.out|apply below_alloc|apply pw_below_drewN|apply below_drew1)|exact HB.out))); (case aF=>exact (fun _ _=>trivial)); (case aO=>exact (by (with_reducible repeat (first|apply Kd.R_alloc|apply Kd.R_drewN|apply Kd.R_drew)); exact HO_4.out)); (case aS=>exact (below_size (by repeat (first|(with_reducible first|exact HB.out|apply below_alloc|apply pw_below_drewN|apply below_drew1)|exact HB.out)))); (case aL=>have:=LMc10.out; omega); intro v471 w21 ho hb hg hat; rw [←Ny470.out] at ho; have n0_:=Aside0.mk (hb); have n1_:=Aside0.mk (ho); clear HB; clear HO_4; have HB:=n0_; have HO472:=n1_; clear n0_ n1_; clear ho hb hg hat; have p473:0≤(x5_1:Int):=of_decide_eq_true (by first|(with_reducible assumption)|assumption); have q473:x5_1<(l0.length:Int):=of_decide_eq_true (by first|(with_reducible assumption)|assumption); obtain ⟨ad473,A473_0,c473_0,e473,hx473_0,hl473_0,hi473_0⟩:=at_L4 HR0.out x5_1 p473 q473; obtain rfl:ad468=ad473:=(by injection e473); replace hx473_0:=(HB.out.cell (World.block_lt_of_cell? w _ hx473_0)).trans hx473_0; have HR473_0:=Aside0.mk hi473_0; have HC473_0:=Aside0.mk hl473_0; clear hi473_0 hl473_0; replace p473:=eq_true p473; replace q473:=eq_true q473; have p474:0≤(x6_2:Int):=of_decide_eq_true (by first|(with_reducible assumption)|assumption); have q474:x6_2<((rd_L4 l0 x5_1).length:Int):=of_decide_eq_true (by first|(with_reducible assumption)|assumption); obtain ⟨ad474,e474,hx474_0⟩:=Kd.at_string HR473_0.out x6_2 p474 q474; cases e474; replace hx474_0:=(HB.out.cell (World.block_lt_of_cell? w _ hx474_0)).trans hx474_0; replace p474:=eq_true p474; replace q474:=eq_true q474; obtain ⟨Ao22,co22,eo22⟩:=Kd.R_slice HO472.out; subst eo22; have p475:0≤(x6_2:Int):=of_decide_eq_true (by first|(with_reducible assumption)|assumption); have q475:x6_2<(y470.length:Int):=of_decide_eq_true (by first|(with_reducible assumption)|assumption); obtain ⟨ad475,e475,hx475_0⟩:=Kd.at_int (Kd.R_reads' HO472.out).2.2 x6_2 p475 q475; cases e475; replace p475:=eq_true p475; replace q475:=eq_true q475))
                 repeat (go_quiet (first|((with_reducible refine gate_builtin (b:=.append) (xs:=#[.tmp 43,.tmp 44]) rfl ?_); (try (refine gate_guard (by rfl) ?_; dsimp only)); at_builtin; refine Kd.R_append (Kd.int .i64) (w0:=w) w.heap.size rfl (.tmp 43) (.tmp 44) 92 3 (.int .i64 0) 8 rfl Tryz.underlying92 info3 rfl (by decide) (by omega) (.slice Ao20 x4_2.length co20) x4_2 0 [.int .i64 0] (fun _=>True) (fun _=>False) rfl rfl ?aP (fun _ hk=>hk.elim) ?aF ?aO ?aB ?aS ?aL ?_; (case aP=>exact rfl); (case aB=>exact (by repeat (first|(with_reducible first|exact HB.out|apply below_alloc|apply pw_below_drewN|apply below_drew1)|exact HB.out))); (case aF=>exact (fun _ _=>trivial)); (case aO=>exact (by (with_reducible repeat (first|apply Kd.R_alloc|apply Kd.R_drewN|apply Kd.R_drew)); exact HO_4.out)); (case aS=>exact (below_size (by repeat (first|(with_reducible first|exact HB.out|apply below_alloc|apply pw_below_drewN|apply below_drew1)|exact HB.out)))); (case aL=>have:=LMc10.out; omega); intro v471 w21 ho hb hg hat; rw [←Ny470.out] at ho; have n0_:=Aside0.mk (hb); have n1_:=Aside0.mk (ho); clear HB; clear HO_4; have HB:=n0_; have HO472:=n1_; clear n0_ n1_; clear ho hb hg hat; have p473:0≤(x5_1:Int):=of_decide_eq_true (by first|(with_reducible assumption)|assumption); have q473:x5_1<(l0.length:Int):=of_decide_eq_true (by first|(with_reducible assumption)|assumption); obtain ⟨ad473,A473_0,c473_0,e473,hx473_0,hl473_0,hi473_0⟩:=at_L4 HR0.out x5_1 p473 q473; obtain rfl:ad468=ad473:=(by injection e473); replace hx473_0:=(HB.out.cell (World.block_lt_of_cell? w _ hx473_0)).trans hx473_0; have HR473_0:=Aside0.mk hi473_0; have HC473_0:=Aside0.mk hl473_0; clear hi473_0 hl473_0; replace p473:=eq_true p473; replace q473:=eq_true q473; have p474:0≤(x6_2:Int):=of_decide_eq_true (by first|(with_reducible assumption)|assumption); have q474:x6_2<((rd_L4 l0 x5_1).length:Int):=of_decide_eq_true (by first|(with_reducible assumption)|assumption); obtain ⟨ad474,e474,hx474_0⟩:=Kd.at_string HR473_0.out x6_2 p474 q474; cases e474; replace hx474_0:=(HB.out.cell (World.block_lt_of_cell? w _ hx474_0)).trans hx474_0; replace p474:=eq_true p474; replace q474:=eq_true q474; obtain ⟨Ao22,co22,eo22⟩:=Kd.R_slice HO472.out; subst eo22; have p475:0≤(x6_2:Int):=of_decide_eq_true (by first|(with_reducible assumption)|assumption); have q475:x6_2<(y470.length:Int):=of_decide_eq_true (by first|(with_reducible assumption)|assumption); obtain ⟨ad475,e475,hx475_0⟩:=Kd.at_int (Kd.R_reads' HO472.out).2.2 x6_2 p475 q475; cases e475; replace p475:=eq_true p475; replace q475:=eq_true q475)); try go_wp2_with (first|((with_reducible refine gate_builtin (b:=.append) (xs:=#[.tmp 43,.tmp 44]) rfl ?_); (try (refine gate_guard (by rfl) ?_; dsimp only)); at_builtin; refine Kd.R_append (Kd.int .i64) (w0:=w) w.heap.size rfl (.tmp 43) (.tmp 44) 92 3 (.int .i64 0) 8 rfl Tryz.underlying92 info3 rfl (by decide) (by omega) (.slice Ao20 x4_2.length co20) x4_2 0 [.int .i64 0] (fun _=>True) (fun _=>False) rfl rfl ?aP (fun _ hk=>hk.elim) ?aF ?aO ?aB ?aS ?aL ?_; (case aP=>exact rfl); (case aB=>exact (by repeat (first|(with_reducible first|exact HB.out|apply below_alloc|apply pw_below_drewN|apply below_drew1)|exact HB.out))); (case aF=>exact (fun _ _=>trivial)); (case aO=>exact (by (with_reducible repeat (first|apply Kd.R_alloc|apply Kd.R_drewN|apply Kd.R_drew)); exact HO_4.out)); (case aS=>exact (below_size (by repeat (first|(with_reducible first|exact HB.out|apply below_alloc|apply pw_below_drewN|apply below_drew1)|exact HB.out)))); (case aL=>have:=LMc10.out; omega); intro v471 w21 ho hb hg hat; rw [←Ny470.out] at ho; have n0_:=Aside0.mk (hb); have n1_:=Aside0.mk (ho); clear HB; clear HO_4; have HB:=n0_; have HO472:=n1_; clear n0_ n1_; clear ho hb hg hat; have p473:0≤(x5_1:Int):=of_decide_eq_true (by first|(with_reducible assumption)|assumption); have q473:x5_1<(l0.length:Int):=of_decide_eq_true (by first|(with_reducible assumption)|assumption); obtain ⟨ad473,A473_0,c473_0,e473,hx473_0,hl473_0,hi473_0⟩:=at_L4 HR0.out x5_1 p473 q473; obtain rfl:ad468=ad473:=(by injection e473); replace hx473_0:=(HB.out.cell (World.block_lt_of_cell? w _ hx473_0)).trans hx473_0; have HR473_0:=Aside0.mk hi473_0; have HC473_0:=Aside0.mk hl473_0; clear hi473_0 hl473_0; replace p473:=eq_true p473; replace q473:=eq_true q473; have p474:0≤(x6_2:Int):=of_decide_eq_true (by first|(with_reducible assumption)|assumption); have q474:x6_2<((rd_L4 l0 x5_1).length:Int):=of_decide_eq_true (by first|(with_reducible assumption)|assumption); obtain ⟨ad474,e474,hx474_0⟩:=Kd.at_string HR473_0.out x6_2 p474 q474; cases e474; replace hx474_0:=(HB.out.cell (World.block_lt_of_cell? w _ hx474_0)).trans hx474_0; replace p474:=eq_true p474; replace q474:=eq_true q474; obtain ⟨Ao22,co22,eo22⟩:=Kd.R_slice HO472.out; subst eo22; have p475:0≤(x6_2:Int):=of_decide_eq_true (by first|(with_reducible assumption)|assumption); have q475:x6_2<(y470.length:Int):=of_decide_eq_true (by first|(with_reducible assumption)|assumption); obtain ⟨ad475,e475,hx475_0⟩:=Kd.at_int (Kd.R_reads' HO472.out).2.2 x6_2 p475 q475; cases e475; replace p475:=eq_true p475; replace q475:=eq_true q475)))
                 go_roundg k2
                 case measure=>have:=HK1.out; have:=HK2.out; omega
                 case rel=>exact ⟨(y470),(wrap64 (x6_2+1)),(by first|rfl|(simp; done)|(simp [*]; done)),H',⟨by have:=HK1.out; have:=HK2.out; omega⟩,⟨by (with_reducible repeat (first|apply Kd.R_alloc|apply Kd.R_drewN|apply Kd.R_drew)); exact HO472.out⟩,⟨by repeat (first|(with_reducible first|exact HB.out|apply below_alloc|apply pw_below_drewN|apply below_drew1)|exact HB.out)⟩⟩
               ·rw [if_neg c12] at H
                exact absurd H (by simp)
              ·rw [if_neg c11] at H
               exact absurd H (by simp)
             ·rw [if_neg c10] at H
              exact absurd H (by simp)
            ·rw [if_neg c9] at H
             have c9b0:(x6_2 == (x4_2.length:Int))=false:=beq_eq_false_iff_ne.mpr c9
             have c9b1:(x6_2 != (x4_2.length:Int))=true:=bne_iff_ne.mpr c9
             by_cases c23:0≤x6_2
             ·rw [if_pos c23] at H
              have c23b0:decide (0≤x6_2)=true:=decide_eq_true c23
              clear c23
              by_cases c24:x6_2<(x4_2.length:Int)
              ·rw [if_pos c24] at H
               have c24b0:decide (x6_2<(x4_2.length:Int))=true:=decide_eq_true c24
               clear c24
               by_cases c25:((rdOf ByteArray.empty (rd_L4 l0 x5_1) x6_2).size:Int)>(rd x4_2 x6_2)
               ·rw [if_pos c25] at H
                have c25b0:decide ((rd x4_2 x6_2)<((rdOf ByteArray.empty (rd_L4 l0 x5_1) x6_2).size:Int))=true:=decide_eq_true c25
                clear c25
                obtain ⟨y484,hy484⟩:∃ y_:List Int,y_=(x4_2.set (x6_2:Int).toNat ((rdOf ByteArray.empty (rd_L4 l0 x5_1) x6_2).size:Int)):=⟨_,rfl⟩
                replace H:(cubitref25_Table.l1 k2 l0 y484 x5_1 (wrap64 (x6_2+1)))=some (r1,r2):=by first|(rw [hy484]; with_reducible exact H)|(have H2_:=(Option.bind_some _ _).symm.trans H; rw [hy484]; with_reducible exact H2_)|(have H2_:=(Option.bind_some _ _).symm.trans H; with_reducible exact H2_)|with_reducible exact H|(rw [hy484]; exact H)|exact H
                have Ny484:=Aside0.mk hy484
                clear hy484
                have H':=Aside0.mk H
                clear H
                have p469:0≤(x5_1:Int):=of_decide_eq_true (by first|(with_reducible assumption)|assumption)
                have q469:x5_1<(l0.length:Int):=of_decide_eq_true (by first|(with_reducible assumption)|assumption)
                obtain ⟨ad469,A469_0,c469_0,e469,hx469_0,hl469_0,hi469_0⟩:=at_L4 HR0.out x5_1 p469 q469
                obtain rfl:ad468=ad469:=(by injection e469)
                replace hx469_0:=(HB.out.cell (World.block_lt_of_cell? w _ hx469_0)).trans hx469_0
                have HR469_0:=Aside0.mk hi469_0
                have HC469_0:=Aside0.mk hl469_0
                clear hi469_0 hl469_0
                replace p469:=eq_true p469
                replace q469:=eq_true q469
                obtain ⟨Ao27,co27,eo27⟩:=Kd.R_slice HO_4.out
                subst eo27
                have p479:0≤(x5_1:Int):=of_decide_eq_true (by first|(with_reducible assumption)|assumption)
                have q479:x5_1<(l0.length:Int):=of_decide_eq_true (by first|(with_reducible assumption)|assumption)
                obtain ⟨ad479,A479_0,c479_0,e479,hx479_0,hl479_0,hi479_0⟩:=at_L4 HR0.out x5_1 p479 q479
                obtain rfl:ad468=ad479:=(by injection e479)
                replace hx479_0:=(HB.out.cell (World.block_lt_of_cell? w _ hx479_0)).trans hx479_0
                have HR479_0:=Aside0.mk hi479_0
                have HC479_0:=Aside0.mk hl479_0
                clear hi479_0 hl479_0
                replace p479:=eq_true p479
                replace q479:=eq_true q479
                have ea_:=Option.some.inj (hx469_0.symm.trans hx479_0)
                injection ea_ with ea_ en_ ec_
                subst ea_
                subst ec_
                clear en_
                have p480:0≤(x6_2:Int):=of_decide_eq_true (by first|(with_reducible assumption)|assumption)
                have q480:x6_2<((rd_L4 l0 x5_1).length:Int):=of_decide_eq_true (by first|(with_reducible assumption)|assumption)
                obtain ⟨ad480,e480,hx480_0⟩:=Kd.at_string HR479_0.out x6_2 p480 q480
                cases e480
                replace hx480_0:=(HB.out.cell (World.block_lt_of_cell? w _ hx480_0)).trans hx480_0
                replace p480:=eq_true p480
                replace q480:=eq_true q480
                have p481:0≤(x6_2:Int):=of_decide_eq_true (by first|(with_reducible assumption)|assumption)
                have q481:x6_2<(x4_2.length:Int):=of_decide_eq_true (by first|(with_reducible assumption)|assumption)
                obtain ⟨ad481,e481,hx481_0⟩:=Kd.at_int (Kd.R_reads' HO_4.out).2.2 x6_2 p481 q481
                cases e481
                replace p481:=eq_true p481
                replace q481:=eq_true q481
                have p482:0≤(x5_1:Int):=of_decide_eq_true (by first|(with_reducible assumption)|assumption)
                have q482:x5_1<(l0.length:Int):=of_decide_eq_true (by first|(with_reducible assumption)|assumption)
                obtain ⟨ad482,A482_0,c482_0,e482,hx482_0,hl482_0,hi482_0⟩:=at_L4 HR0.out x5_1 p482 q482
                obtain rfl:ad468=ad482:=(by injection e482)
                replace hx482_0:=(HB.out.cell (World.block_lt_of_cell? w _ hx482_0)).trans hx482_0
                have HR482_0:=Aside0.mk hi482_0
                have HC482_0:=Aside0.mk hl482_0
                clear hi482_0 hl482_0
                replace p482:=eq_true p482
                replace q482:=eq_true q482
                have ea_:=Option.some.inj (hx469_0.symm.trans hx482_0)
                injection ea_ with ea_ en_ ec_
                subst ea_
                subst ec_
                clear en_
                have p483:0≤(x6_2:Int):=of_decide_eq_true (by first|(with_reducible assumption)|assumption)
                have q483:x6_2<((rd_L4 l0 x5_1).length:Int):=of_decide_eq_true (by first|(with_reducible assumption)|assumption)
                obtain ⟨ad483,e483,hx483_0⟩:=Kd.at_string HR482_0.out x6_2 p483 q483
                cases e483
                replace hx483_0:=(HB.out.cell (World.block_lt_of_cell? w _ hx483_0)).trans hx483_0
                replace p483:=eq_true p483
                replace q483:=eq_true q483
                have p26:0≤(x6_2:Int):=of_decide_eq_true (by first|(with_reducible assumption)|assumption)
                have q26:(x6_2:Int)<((x4_2.length:Int):Int):=of_decide_eq_true (by first|(with_reducible assumption)|assumption)
                obtain ⟨go26,co26,eo26,gb26,gl26,cl26,HG26⟩:=Kd.R_form HO_4.out (by omega)
                (first|cases eo26|(injection eo26 with ea_ en_ ec_; (first|subst ea_|(injection ea_ with ea_; subst ea_)); subst ec_; clear en_))
                have GB26:=Aside0.mk gb26
                have GG26:=Aside0.mk HG26
                clear gb26 gl26 HG26
                (first|simp only [add_plain] at hx481_0|skip)
                obtain ⟨hx26_0,hf26_0⟩:=Kd.R_celln 0 HO_4.out (x6_2:Int) p26 q26
                replace p26:=eq_true p26
                replace q26:=eq_true q26
                have HP28:=Kd.R_putg HO_4.out (x6_2:Int) ((rdOf ByteArray.empty (rd_L4 l0 x5_1) x6_2).size:Int)
                go_wp2_with (first|((with_reducible refine gate_store (t:=3) (p:=69) rfl ?_); (try (rw [drewN_self wr]; generalize hq_:World.drewN wr _=wr; have n0_:=Aside0.mk (Kd.R_at hq_ HO_4.out); have n1_:=Aside0.mk (below_at hq_ HB.out); clear hq_ HO_4 HB; have HO_4:=n0_; have HB:=n1_; clear n0_ n1_; (try (have HP28:=Kd.R_putg HO_4.out (x6_2:Int) ((rdOf ByteArray.empty (rd_L4 l0 x5_1) x6_2).size:Int))))); refine store_event (t:=3) (p:=69) (v:=?vo_w29) (w1:=(wr.setCell ⟨go26,(x6_2:Int).toNat,none⟩ (.int .i64 ((rdOf ByteArray.empty (rd_L4 l0 x5_1) x6_2).size:Int)))) ?hg ?ho ?hn ?hr ?_; (case ho=>rfl); (case hg=>rfl); (case hn=>rfl); (case hr=>first|(go_simp; done)|(go_simp; rfl)); intro w29 hw; have hg:wr.grownBy w29 (some go26):=(by rw [hw]; exact HP28.2); have hp_:Kd.R (Kd.int .i64) 3 w29 w.heap.size (fun _=>True) (.slice (some ⟨go26,0,none⟩) x4_2.length co27) y484:=(by rw [hw,Ny484.out]; exact HP28.1); clear HP28; have n0_:=Aside0.mk (hp_); have n1_:=Aside0.mk ((by rw [hw]; exact below_set (HB.out) GB26.out:Below w.heap.size w w29)); clear HO_4; clear HB; have HO_4:=n0_; have HB:=n1_; clear n0_ n1_; clear hg hw hp_))
                repeat (go_quiet (first|((with_reducible refine gate_store (t:=3) (p:=69) rfl ?_); (try (rw [drewN_self wr]; generalize hq_:World.drewN wr _=wr; have n0_:=Aside0.mk (Kd.R_at hq_ HO_4.out); have n1_:=Aside0.mk (below_at hq_ HB.out); clear hq_ HO_4 HB; have HO_4:=n0_; have HB:=n1_; clear n0_ n1_; (try (have HP28:=Kd.R_putg HO_4.out (x6_2:Int) ((rdOf ByteArray.empty (rd_L4 l0 x5_1) x6_2).size:Int))))); refine store_event (t:=3) (p:=69) (v:=?vo_w29) (w1:=(wr.setCell ⟨go26,(x6_2:Int).toNat,none⟩ (.int .i64 ((rdOf ByteArray.empty (rd_L4 l0 x5_1) x6_2).size:Int)))) ?hg ?ho ?hn ?hr ?_; (case ho=>rfl); (case hg=>rfl); (case hn=>rfl); (case hr=>first|(go_simp; done)|(go_simp; rfl)); intro w29 hw; have hg:wr.grownBy w29 (some go26):=(by rw [hw]; exact HP28.2); have hp_:Kd.R (Kd.int .i64) 3 w29 w.heap.size (fun _=>True) (.slice (some ⟨go26,0,none⟩) x4_2.length co27) y484:=(by rw [hw,Ny484.out]; exact HP28.1); clear HP28; have n0_:=Aside0.mk (hp_); have n1_:=Aside0.mk ((by rw [hw]; exact below_set (HB.out) GB26.out:Below w.heap.size w w29)); clear HO_4; clear HB; have HO_4:=n0_; have HB:=n1_; clear n0_ n1_; clear hg hw hp_)); try go_wp2_with (first|((with_reducible refine gate_store (t:=3) (p:=69) rfl ?_); (try (rw [drewN_self wr]; generalize hq_:World.drewN wr _=wr; have n0_:=Aside0.mk (Kd.R_at hq_ HO_4.out); have n1_:=Aside0.mk (below_at hq_ HB.out); clear hq_ HO_4 HB; have HO_4:=n0_; have HB:=n1_; clear n0_ n1_; (try (have HP28:=Kd.R_putg HO_4.out (x6_2:Int) ((rdOf ByteArray.empty (rd_L4 l0 x5_1) x6_2).size:Int))))); refine store_event (t:=3) (p:=69) (v:=?vo_w29) (w1:=(wr.setCell ⟨go26,(x6_2:Int).toNat,none⟩ (.int .i64 ((rdOf ByteArray.empty (rd_L4 l0 x5_1) x6_2).size:Int)))) ?hg ?ho ?hn ?hr ?_; (case ho=>rfl); (case hg=>rfl); (case hn=>rfl); (case hr=>first|(go_simp; done)|(go_simp; rfl)); intro w29 hw; have hg:wr.grownBy w29 (some go26):=(by rw [hw]; exact HP28.2); have hp_:Kd.R (Kd.int .i64) 3 w29 w.heap.size (fun _=>True) (.slice (some ⟨go26,0,none⟩) x4_2.length co27) y484:=(by rw [hw,Ny484.out]; exact HP28.1); clear HP28; have n0_:=Aside0.mk (hp_); have n1_:=Aside0.mk ((by rw [hw]; exact below_set (HB.out) GB26.out:Below w.heap.size w w29)); clear HO_4; clear HB; have HO_4:=n0_; have HB:=n1_; clear n0_ n1_; clear hg hw hp_)))
                go_roundg k2
                case measure=>have:=HK1.out; have:=HK2.out; omega
                case rel=>exact ⟨(y484),(wrap64 (x6_2+1)),(by first|rfl|(simp; done)|(simp [*]; done)),H',⟨by have:=HK1.out; have:=HK2.out; omega⟩,⟨by (first|((with_reducible repeat (first|apply Kd.R_alloc|apply Kd.R_drewN|apply Kd.R_drew)); exact HO_4.out)|(rw [Ny484.out]; exact (Kd.R_putg (Kd.R_drewN HO_4.out _) _ _).1))⟩,⟨by (first|((repeat (first|(with_reducible first|exact HB.out|apply below_alloc|apply pw_below_drewN|apply below_drew1)|exact HB.out)); done)|exact below_set (pw_below_drewN HB.out _) GB26.out)⟩⟩
               ·rw [if_neg c25] at H
                have c25b0:decide ((rd x4_2 x6_2)<((rdOf ByteArray.empty (rd_L4 l0 x5_1) x6_2).size:Int))=false:=decide_eq_false c25
                clear c25
                have H':=Aside0.mk H
                clear H
                have p469:0≤(x5_1:Int):=of_decide_eq_true (by first|(with_reducible assumption)|assumption)
                have q469:x5_1<(l0.length:Int):=of_decide_eq_true (by first|(with_reducible assumption)|assumption)
                obtain ⟨ad469,A469_0,c469_0,e469,hx469_0,hl469_0,hi469_0⟩:=at_L4 HR0.out x5_1 p469 q469
                obtain rfl:ad468=ad469:=(by injection e469)
                replace hx469_0:=(HB.out.cell (World.block_lt_of_cell? w _ hx469_0)).trans hx469_0
                have HR469_0:=Aside0.mk hi469_0
                have HC469_0:=Aside0.mk hl469_0
                clear hi469_0 hl469_0
                replace p469:=eq_true p469
                replace q469:=eq_true q469
                obtain ⟨Ao30,co30,eo30⟩:=Kd.R_slice HO_4.out
                subst eo30
                have p479:0≤(x5_1:Int):=of_decide_eq_true (by first|(with_reducible assumption)|assumption)
                have q479:x5_1<(l0.length:Int):=of_decide_eq_true (by first|(with_reducible assumption)|assumption)
                obtain ⟨ad479,A479_0,c479_0,e479,hx479_0,hl479_0,hi479_0⟩:=at_L4 HR0.out x5_1 p479 q479
                obtain rfl:ad468=ad479:=(by injection e479)
                replace hx479_0:=(HB.out.cell (World.block_lt_of_cell? w _ hx479_0)).trans hx479_0
                have HR479_0:=Aside0.mk hi479_0
                have HC479_0:=Aside0.mk hl479_0
                clear hi479_0 hl479_0
                replace p479:=eq_true p479
                replace q479:=eq_true q479
                have ea_:=Option.some.inj (hx469_0.symm.trans hx479_0)
                injection ea_ with ea_ en_ ec_
                subst ea_
                subst ec_
                clear en_
                have p480:0≤(x6_2:Int):=of_decide_eq_true (by first|(with_reducible assumption)|assumption)
                have q480:x6_2<((rd_L4 l0 x5_1).length:Int):=of_decide_eq_true (by first|(with_reducible assumption)|assumption)
                obtain ⟨ad480,e480,hx480_0⟩:=Kd.at_string HR479_0.out x6_2 p480 q480
                cases e480
                replace hx480_0:=(HB.out.cell (World.block_lt_of_cell? w _ hx480_0)).trans hx480_0
                replace p480:=eq_true p480
                replace q480:=eq_true q480
                have p481:0≤(x6_2:Int):=of_decide_eq_true (by first|(with_reducible assumption)|assumption)
                have q481:x6_2<(x4_2.length:Int):=of_decide_eq_true (by first|(with_reducible assumption)|assumption)
                obtain ⟨ad481,e481,hx481_0⟩:=Kd.at_int (Kd.R_reads' HO_4.out).2.2 x6_2 p481 q481
                cases e481
                replace p481:=eq_true p481
                replace q481:=eq_true q481
                go_wp2
                repeat (go_quiet (fail); try go_wp2)
                go_roundg k2
                case measure=>have:=HK1.out; have:=HK2.out; omega
                case rel=>exact ⟨(x4_2),(wrap64 (x6_2+1)),(by first|rfl|(simp; done)|(simp [*]; done)),H',⟨by have:=HK1.out; have:=HK2.out; omega⟩,⟨by (with_reducible repeat (first|apply Kd.R_alloc|apply Kd.R_drewN|apply Kd.R_drew)); exact HO_4.out⟩,⟨by repeat (first|(with_reducible first|exact HB.out|apply below_alloc|apply pw_below_drewN|apply below_drew1)|exact HB.out)⟩⟩
              ·rw [if_neg c24] at H
               exact absurd H (by simp)
             ·rw [if_neg c23] at H
              exact absurd H (by simp)
           ·rw [if_neg c8] at H
            have c8b0:decide (x6_2<((rd_L4 l0 x5_1).length:Int))=false:=decide_eq_false c8
            clear c8
            have H':=Aside0.mk H
            clear H
            have p469:0≤(x5_1:Int):=of_decide_eq_true (by first|(with_reducible assumption)|assumption)
            have q469:x5_1<(l0.length:Int):=of_decide_eq_true (by first|(with_reducible assumption)|assumption)
            obtain ⟨ad469,A469_0,c469_0,e469,hx469_0,hl469_0,hi469_0⟩:=at_L4 HR0.out x5_1 p469 q469
            obtain rfl:ad468=ad469:=(by injection e469)
            replace hx469_0:=(HB.out.cell (World.block_lt_of_cell? w _ hx469_0)).trans hx469_0
            have HR469_0:=Aside0.mk hi469_0
            have HC469_0:=Aside0.mk hl469_0
            clear hi469_0 hl469_0
            replace p469:=eq_true p469
            replace q469:=eq_true q469
            go_wp2
            repeat (go_quiet (fail); try go_wp2)
            go_roundg k2
            case measure=>have:=HK1.out; have:=HK2.out; omega
            case rel=>exact ⟨(x4_2),(wrap64 (x5_1+1)),(by first|rfl|(simp; done)|(simp [*]; done)),H',⟨by have:=HK1.out; have:=HK2.out; omega⟩,⟨by (with_reducible repeat (first|apply Kd.R_alloc|apply Kd.R_drewN|apply Kd.R_drew)); exact HO_4.out⟩,⟨by repeat (first|(with_reducible first|exact HB.out|apply below_alloc|apply pw_below_drewN|apply below_drew1)|exact HB.out)⟩⟩
          ·rw [if_neg c7] at H
           exact absurd H (by simp)
         ·rw [if_neg c6] at H
          exact absurd H (by simp)
     ·rw [if_neg c4] at H
      exact absurd H (by simp)
    ·rw [if_neg c3] at H
     have c3b0:decide (x5_1<(l0.length:Int))=false:=decide_eq_false c3
     clear c3
     have H':=Aside0.mk H
     clear H
     go_wp2
     repeat (go_quiet (fail); try go_wp2)
     go_loopg [7,8] k1 (fun kq v7 v8 w'=>∃ (x7_2:Int) (x8_2:Int),v7 = .int .i64 x7_2∧v8 = .int .i64 x8_2∧Aside0 (cubitref25_Table.l2 kq l0 x4_1 x7_2 x8_2=some (r1,r2))∧Aside0 (kq≤k1)∧Aside0 (Kd.R (Kd.int .i64) 3 w' w.heap.size (fun _=>True) u4 x4_1)∧Aside0 (Below w.heap.size w w'))
     case atStart=>exact ⟨(0),(0),(by first|rfl|(simp; done)|(simp [*]; done)),(by first|rfl|(simp; done)|(simp [*]; done)),H',⟨Nat.le_refl _⟩,⟨by (with_reducible repeat (first|apply Kd.R_alloc|apply Kd.R_drewN|apply Kd.R_drew)); exact HO_4.out⟩,⟨by repeat (first|(with_reducible first|exact HB.out|apply below_alloc|apply pw_below_drewN|apply below_drew1)|exact HB.out)⟩⟩
     case round =>
      clear H'
      try clear c1
      try clear p1
      try clear q1
      try clear hx1
      try clear hf1
      try clear c2
      try clear c2b0
      try clear c2b1
      try clear p2
      try clear q2
      try clear hx2
      try clear hf2
      try clear c3
      try clear c3b0
      try clear c4
      try clear c4b0
      try clear p4
      try clear q4
      try clear hx4
      try clear c5
      try clear c5b0
      try clear c5b1
      try clear c6
      try clear c6b0
      try clear p6
      try clear c7
      try clear c7b0
      try clear c8
      try clear c8b0
      try clear c9
      try clear c9b0
      try clear c9b1
      try clear c10
      try clear c11
      try clear c11b0
      try clear c12
      try clear c12b0
      try clear c13
      try clear c13b0
      try clear p14
      try clear q14
      try clear hx14
      try clear hf14
      try clear c23
      try clear c23b0
      try clear c24
      try clear c24b0
      try clear c25
      try clear c25b0
      try clear p26
      try clear q26
      try clear hx26
      try clear hf26
      try clear c27
      try clear hx14_0
      try clear hx26_0
      try clear hx468_0
      try clear hx469_0
      try clear hx473_0
      try clear hx474_0
      try clear hx475_0
      try clear hx476_0
      try clear hx477_0
      try clear hx479_0
      try clear hx480_0
      try clear hx481_0
      try clear hx482_0
      try clear hx483_0
      try clear p14
      try clear p2
      try clear p26
      try clear p4
      try clear p468
      try clear p469
      try clear p473
      try clear p474
      try clear p475
      try clear p476
      try clear p477
      try clear p479
      try clear p480
      try clear p481
      try clear p482
      try clear p483
      try clear q14
      try clear q26
      try clear q4
      try clear q468
      try clear q469
      try clear q473
      try clear q474
      try clear q475
      try clear q476
      try clear q477
      try clear q479
      try clear q480
      try clear q481
      try clear q482
      try clear q483
      obtain ⟨x7_2,x8_2,rfl,rfl,HA,HK2,HO_4,HB⟩:=hrel
      cases gk with
      | zero=>exact absurd HA.out (by simp [cubitref25_Table.l2])
      | succ k2 =>
       have H:=HA.out
       clear HA
       simp only [cubitref25_Table.l2] at H
       by_cases c31:x8_2<(l0.length:Int)
       ·rw [if_pos c31] at H
        have c31b0:decide (x8_2<(l0.length:Int))=true:=decide_eq_true c31
        clear c31
        have H':=Aside0.mk H
        clear H
        go_wp2
        repeat (go_quiet (fail); try go_wp2)
        go_loopg [7,9] k2 (fun kq v7 v9 w'=>∃ (x7_3:Int) (x9_3:Int),v7 = .int .i64 x7_3∧v9 = .int .i64 x9_3∧Aside0 (cubitref25_Table.l3 kq l0 x4_1 x7_3 x8_2 x9_3=some (r1,r2))∧Aside0 (kq≤k2)∧Aside0 (Kd.R (Kd.int .i64) 3 w' w.heap.size (fun _=>True) u4 x4_1)∧Aside0 (Below w.heap.size w w'))
        case atStart=>exact ⟨(wrap64 (x7_2+1)),(0),(by first|rfl|(simp; done)|(simp [*]; done)),(by first|rfl|(simp; done)|(simp [*]; done)),H',⟨Nat.le_refl _⟩,⟨by (with_reducible repeat (first|apply Kd.R_alloc|apply Kd.R_drewN|apply Kd.R_drew)); exact HO_4.out⟩,⟨by repeat (first|(with_reducible first|exact HB.out|apply below_alloc|apply pw_below_drewN|apply below_drew1)|exact HB.out)⟩⟩
        case round =>
         clear H'
         try clear c1
         try clear p1
         try clear q1
         try clear hx1
         try clear hf1
         try clear c2
         try clear c2b0
         try clear c2b1
         try clear p2
         try clear q2
         try clear hx2
         try clear hf2
         try clear c3
         try clear c3b0
         try clear c4
         try clear c4b0
         try clear p4
         try clear q4
         try clear hx4
         try clear c5
         try clear c5b0
         try clear c5b1
         try clear c6
         try clear c6b0
         try clear p6
         try clear c7
         try clear c7b0
         try clear c8
         try clear c8b0
         try clear c9
         try clear c9b0
         try clear c9b1
         try clear c10
         try clear c11
         try clear c11b0
         try clear c12
         try clear c12b0
         try clear c13
         try clear c13b0
         try clear p14
         try clear q14
         try clear hx14
         try clear hf14
         try clear c23
         try clear c23b0
         try clear c24
         try clear c24b0
         try clear c25
         try clear c25b0
         try clear p26
         try clear q26
         try clear hx26
         try clear hf26
         try clear c27
         try clear c31
         try clear c31b0
         try clear hx14_0
         try clear hx26_0
         try clear hx468_0
         try clear hx469_0
         try clear hx473_0
         try clear hx474_0
         try clear hx475_0
         try clear hx476_0
         try clear hx477_0
         try clear hx479_0
         try clear hx480_0
         try clear hx481_0
         try clear hx482_0
         try clear hx483_0
         try clear p1
         try clear p14
         try clear p2
         try clear p26
         try clear p4
         try clear p468
         try clear p469
         try clear p473
         try clear p474
         try clear p475
         try clear p476
         try clear p477
         try clear p479
         try clear p480
         try clear p481
         try clear p482
         try clear p483
         try clear p6
         try clear q1
         try clear q14
         try clear q2
         try clear q26
         try clear q4
         try clear q468
         try clear q469
         try clear q473
         try clear q474
         try clear q475
         try clear q476
         try clear q477
         try clear q479
         try clear q480
         try clear q481
         try clear q482
         try clear q483
         obtain ⟨x7_3,x9_3,rfl,rfl,HA,HK3,HO_4,HB⟩:=hrel
         cases gk with
         | zero=>exact absurd HA.out (by simp [cubitref25_Table.l3])
         | succ k3 =>
          have H:=HA.out
          clear HA
          simp only [cubitref25_Table.l3] at H
          by_cases c32:0≤x8_2
          ·rw [if_pos c32] at H
           have c32b0:decide (0≤x8_2)=true:=decide_eq_true c32
           clear c32
           by_cases c33:x8_2<(l0.length:Int)
           ·rw [if_pos c33] at H
            have c33b0:decide (x8_2<(l0.length:Int))=true:=decide_eq_true c33
            clear c33
            by_cases c34:x9_3<((rd_L4 l0 x8_2).length:Int)
            ·rw [if_pos c34] at H
             have c34b0:decide (x9_3<((rd_L4 l0 x8_2).length:Int))=true:=decide_eq_true c34
             clear c34
             by_cases c35:x9_3<(wrap64 (((rd_L4 l0 x8_2).length:Int)-1))
             ·rw [if_pos c35] at H
              have c35b0:decide (x9_3<(wrap64 (((rd_L4 l0 x8_2).length:Int)-1)))=true:=decide_eq_true c35
              clear c35
              by_cases c36:0≤x9_3
              ·rw [if_pos c36] at H
               have c36b0:decide (0≤x9_3)=true:=decide_eq_true c36
               clear c36
               by_cases c37:x9_3<(x4_1.length:Int)
               ·rw [if_pos c37] at H
                have c37b0:decide (x9_3<(x4_1.length:Int))=true:=decide_eq_true c37
                clear c37
                have H':=Aside0.mk H
                clear H
                have p485:0≤(x8_2:Int):=of_decide_eq_true (by first|(with_reducible assumption)|assumption)
                have q485:x8_2<(l0.length:Int):=of_decide_eq_true (by first|(with_reducible assumption)|assumption)
                obtain ⟨ad485,A485_0,c485_0,e485,hx485_0,hl485_0,hi485_0⟩:=at_L4 HR0.out x8_2 p485 q485
                cases e485
                replace hx485_0:=(HB.out.cell (World.block_lt_of_cell? w _ hx485_0)).trans hx485_0
                have HR485_0:=Aside0.mk hi485_0
                have HC485_0:=Aside0.mk hl485_0
                clear hi485_0 hl485_0
                replace p485:=eq_true p485
                replace q485:=eq_true q485
                have p486:0≤(x8_2:Int):=of_decide_eq_true (by first|(with_reducible assumption)|assumption)
                have q486:x8_2<(l0.length:Int):=of_decide_eq_true (by first|(with_reducible assumption)|assumption)
                obtain ⟨ad486,A486_0,c486_0,e486,hx486_0,hl486_0,hi486_0⟩:=at_L4 HR0.out x8_2 p486 q486
                obtain rfl:ad485=ad486:=(by injection e486)
                replace hx486_0:=(HB.out.cell (World.block_lt_of_cell? w _ hx486_0)).trans hx486_0
                have HR486_0:=Aside0.mk hi486_0
                have HC486_0:=Aside0.mk hl486_0
                clear hi486_0 hl486_0
                replace p486:=eq_true p486
                replace q486:=eq_true q486
                have ea_:=Option.some.inj (hx485_0.symm.trans hx486_0)
                injection ea_ with ea_ en_ ec_
                subst ea_
                subst ec_
                clear en_
                obtain ⟨Ao38,co38,eo38⟩:=Kd.R_slice HO_4.out
                subst eo38
                have p487:0≤(x9_3:Int):=of_decide_eq_true (by first|(with_reducible assumption)|assumption)
                have q487:x9_3<(x4_1.length:Int):=of_decide_eq_true (by first|(with_reducible assumption)|assumption)
                obtain ⟨ad487,e487,hx487_0⟩:=Kd.at_int (Kd.R_reads' HO_4.out).2.2 x9_3 p487 q487
                cases e487
                replace p487:=eq_true p487
                replace q487:=eq_true q487
                go_wp2
                repeat (go_quiet (fail); try go_wp2)
                go_roundg k3
                case measure=>have:=HK1.out; have:=HK2.out; have:=HK3.out; omega
                case rel=>exact ⟨(wrap64 ((wrap64 (x7_3+(rd x4_1 x9_3)))+2)),(wrap64 (x9_3+1)),(by first|rfl|(simp; done)|(simp [*]; done)),(by first|rfl|(simp; done)|(simp [*]; done)),H',⟨by have:=HK1.out; have:=HK2.out; have:=HK3.out; omega⟩,⟨by (with_reducible repeat (first|apply Kd.R_alloc|apply Kd.R_drewN|apply Kd.R_drew)); exact HO_4.out⟩,⟨by repeat (first|(with_reducible first|exact HB.out|apply below_alloc|apply pw_below_drewN|apply below_drew1)|exact HB.out)⟩⟩
               ·rw [if_neg c37] at H
                exact absurd H (by simp)
              ·rw [if_neg c36] at H
               exact absurd H (by simp)
             ·rw [if_neg c35] at H
              have c35b0:decide (x9_3<(wrap64 (((rd_L4 l0 x8_2).length:Int)-1)))=false:=decide_eq_false c35
              clear c35
              by_cases c39:0≤x9_3
              ·rw [if_pos c39] at H
               have c39b0:decide (0≤x9_3)=true:=decide_eq_true c39
               clear c39
               have H':=Aside0.mk H
               clear H
               have p485:0≤(x8_2:Int):=of_decide_eq_true (by first|(with_reducible assumption)|assumption)
               have q485:x8_2<(l0.length:Int):=of_decide_eq_true (by first|(with_reducible assumption)|assumption)
               obtain ⟨ad485,A485_0,c485_0,e485,hx485_0,hl485_0,hi485_0⟩:=at_L4 HR0.out x8_2 p485 q485
               cases e485
               replace hx485_0:=(HB.out.cell (World.block_lt_of_cell? w _ hx485_0)).trans hx485_0
               have HR485_0:=Aside0.mk hi485_0
               have HC485_0:=Aside0.mk hl485_0
               clear hi485_0 hl485_0
               replace p485:=eq_true p485
               replace q485:=eq_true q485
               have p486:0≤(x8_2:Int):=of_decide_eq_true (by first|(with_reducible assumption)|assumption)
               have q486:x8_2<(l0.length:Int):=of_decide_eq_true (by first|(with_reducible assumption)|assumption)
               obtain ⟨ad486,A486_0,c486_0,e486,hx486_0,hl486_0,hi486_0⟩:=at_L4 HR0.out x8_2 p486 q486
               obtain rfl:ad485=ad486:=(by injection e486)
               replace hx486_0:=(HB.out.cell (World.block_lt_of_cell? w _ hx486_0)).trans hx486_0
               have HR486_0:=Aside0.mk hi486_0
               have HC486_0:=Aside0.mk hl486_0
               clear hi486_0 hl486_0
               replace p486:=eq_true p486
               replace q486:=eq_true q486
               have ea_:=Option.some.inj (hx485_0.symm.trans hx486_0)
               injection ea_ with ea_ en_ ec_
               subst ea_
               subst ec_
               clear en_
               have p488:0≤(x8_2:Int):=of_decide_eq_true (by first|(with_reducible assumption)|assumption)
               have q488:x8_2<(l0.length:Int):=of_decide_eq_true (by first|(with_reducible assumption)|assumption)
               obtain ⟨ad488,A488_0,c488_0,e488,hx488_0,hl488_0,hi488_0⟩:=at_L4 HR0.out x8_2 p488 q488
               obtain rfl:ad485=ad488:=(by injection e488)
               replace hx488_0:=(HB.out.cell (World.block_lt_of_cell? w _ hx488_0)).trans hx488_0
               have HR488_0:=Aside0.mk hi488_0
               have HC488_0:=Aside0.mk hl488_0
               clear hi488_0 hl488_0
               replace p488:=eq_true p488
               replace q488:=eq_true q488
               have ea_:=Option.some.inj (hx485_0.symm.trans hx488_0)
               injection ea_ with ea_ en_ ec_
               subst ea_
               subst ec_
               clear en_
               have p489:0≤(x9_3:Int):=of_decide_eq_true (by first|(with_reducible assumption)|assumption)
               have q489:x9_3<((rd_L4 l0 x8_2).length:Int):=of_decide_eq_true (by first|(with_reducible assumption)|assumption)
               obtain ⟨ad489,e489,hx489_0⟩:=Kd.at_string HR488_0.out x9_3 p489 q489
               cases e489
               replace hx489_0:=(HB.out.cell (World.block_lt_of_cell? w _ hx489_0)).trans hx489_0
               replace p489:=eq_true p489
               replace q489:=eq_true q489
               go_wp2
               repeat (go_quiet (fail); try go_wp2)
               go_roundg k3
               case measure=>have:=HK1.out; have:=HK2.out; have:=HK3.out; omega
               case rel=>exact ⟨(wrap64 (x7_3+((rdOf ByteArray.empty (rd_L4 l0 x8_2) x9_3).size:Int))),(wrap64 (x9_3+1)),(by first|rfl|(simp; done)|(simp [*]; done)),(by first|rfl|(simp; done)|(simp [*]; done)),H',⟨by have:=HK1.out; have:=HK2.out; have:=HK3.out; omega⟩,⟨by (with_reducible repeat (first|apply Kd.R_alloc|apply Kd.R_drewN|apply Kd.R_drew)); exact HO_4.out⟩,⟨by repeat (first|(with_reducible first|exact HB.out|apply below_alloc|apply pw_below_drewN|apply below_drew1)|exact HB.out)⟩⟩
              ·rw [if_neg c39] at H
               exact absurd H (by simp)
            ·rw [if_neg c34] at H
             have c34b0:decide (x9_3<((rd_L4 l0 x8_2).length:Int))=false:=decide_eq_false c34
             clear c34
             by_cases c40:x7_3>65536
             ·rw [if_pos c40] at H
              have c40b0:decide (65536<x7_3)=true:=decide_eq_true c40
              clear c40
              simp only [Option.some.injEq,Prod.mk.injEq] at H
              obtain ⟨rfl,rfl⟩:=H
              have p485:0≤(x8_2:Int):=of_decide_eq_true (by first|(with_reducible assumption)|assumption)
              have q485:x8_2<(l0.length:Int):=of_decide_eq_true (by first|(with_reducible assumption)|assumption)
              obtain ⟨ad485,A485_0,c485_0,e485,hx485_0,hl485_0,hi485_0⟩:=at_L4 HR0.out x8_2 p485 q485
              cases e485
              replace hx485_0:=(HB.out.cell (World.block_lt_of_cell? w _ hx485_0)).trans hx485_0
              have HR485_0:=Aside0.mk hi485_0
              have HC485_0:=Aside0.mk hl485_0
              clear hi485_0 hl485_0
              replace p485:=eq_true p485
              replace q485:=eq_true q485
              go_wp2
              repeat (go_quiet (fail); try go_wp2)
              go_ret2
              exact ⟨by first|rfl|(simp [errW_none,errW_some]<;>rfl)|(simp [*,errW_none,errW_some]<;>rfl),by repeat (first|(with_reducible first|exact HB.out|apply below_alloc|apply pw_below_drewN|apply below_drew1)|exact HB.out)⟩
             ·rw [if_neg c40] at H
              have c40b0:decide (65536<x7_3)=false:=decide_eq_false c40
              clear c40
              have H':=Aside0.mk H
              clear H
              have p485:0≤(x8_2:Int):=of_decide_eq_true (by first|(with_reducible assumption)|assumption)
              have q485:x8_2<(l0.length:Int):=of_decide_eq_true (by first|(with_reducible assumption)|assumption)
              obtain ⟨ad485,A485_0,c485_0,e485,hx485_0,hl485_0,hi485_0⟩:=at_L4 HR0.out x8_2 p485 q485
              cases e485
              replace hx485_0:=(HB.out.cell (World.block_lt_of_cell? w _ hx485_0)).trans hx485_0
              have HR485_0:=Aside0.mk hi485_0
              have HC485_0:=Aside0.mk hl485_0
              clear hi485_0 hl485_0
              replace p485:=eq_true p485
              replace q485:=eq_true q485
              go_wp2
              repeat (go_quiet (fail); try go_wp2)
              go_roundg k3
              case measure=>have:=HK1.out; have:=HK2.out; have:=HK3.out; omega
              case rel=>exact ⟨(x7_3),(wrap64 (x8_2+1)),(by first|rfl|(simp; done)|(simp [*]; done)),(by first|rfl|(simp; done)|(simp [*]; done)),H',⟨by have:=HK1.out; have:=HK2.out; have:=HK3.out; omega⟩,⟨by (with_reducible repeat (first|apply Kd.R_alloc|apply Kd.R_drewN|apply Kd.R_drew)); exact HO_4.out⟩,⟨by repeat (first|(with_reducible first|exact HB.out|apply below_alloc|apply pw_below_drewN|apply below_drew1)|exact HB.out)⟩⟩
           ·rw [if_neg c33] at H
            exact absurd H (by simp)
          ·rw [if_neg c32] at H
           exact absurd H (by simp)
       ·rw [if_neg c31] at H
        have c31b0:decide (x8_2<(l0.length:Int))=false:=decide_eq_false c31
        clear c31
        have H':=Aside0.mk H
        clear H
        go_wp2
        repeat (go_quiet (fail); try go_wp2)
        go_loopg [10,11] k2 (fun kq v10 v11 w'=>∃ (x10_3:List Int) (x11_3:Int),v11 = .int .i64 x11_3∧Aside0 (cubitref25_Table.l4 kq l0 x4_1 x10_3 x11_3=some (r1,r2))∧Aside0 (kq≤k2)∧Aside0 (Kd.R (Kd.int .i64) 3 w' w.heap.size (fun _=>True) u4 x4_1)∧Aside0 (Kd.R (Kd.int .u8) 5 w' w.heap.size (fun _=>True) v10 x10_3)∧Aside0 (Below w.heap.size w w'))
        case atStart=>exact ⟨(([]:List Int)),(0),(by first|rfl|(simp; done)|(simp [*]; done)),H',⟨Nat.le_refl _⟩,⟨by (with_reducible repeat (first|apply Kd.R_alloc|apply Kd.R_drewN|apply Kd.R_drew)); exact HO_4.out⟩,⟨by first|exact Kd.R_nil _ _ _ _ _|exact Kd.N_nil _ _ _ _ _|exact Kd.V_nil _ _ _ _ _|exact Kd.Q_nil _ _ _ _ _|exact Kd.S_nil _ _ _ _ _⟩,⟨by repeat (first|(with_reducible first|exact HB.out|apply below_alloc|apply pw_below_drewN|apply below_drew1)|exact HB.out)⟩⟩
        case round =>
         clear H'
         try clear c1
         try clear p1
         try clear q1
         try clear hx1
         try clear hf1
         try clear c2
         try clear c2b0
         try clear c2b1
         try clear p2
         try clear q2
         try clear hx2
         try clear hf2
         try clear c3
         try clear c3b0
         try clear c4
         try clear c4b0
         try clear p4
         try clear q4
         try clear hx4
         try clear c5
         try clear c5b0
         try clear c5b1
         try clear c6
         try clear c6b0
         try clear p6
         try clear c7
         try clear c7b0
         try clear c8
         try clear c8b0
         try clear c9
         try clear c9b0
         try clear c9b1
         try clear c10
         try clear c11
         try clear c11b0
         try clear c12
         try clear c12b0
         try clear c13
         try clear c13b0
         try clear p14
         try clear q14
         try clear hx14
         try clear hf14
         try clear c23
         try clear c23b0
         try clear c24
         try clear c24b0
         try clear c25
         try clear c25b0
         try clear p26
         try clear q26
         try clear hx26
         try clear hf26
         try clear c27
         try clear c31
         try clear c31b0
         try clear c32
         try clear c32b0
         try clear c33
         try clear c33b0
         try clear c34
         try clear c34b0
         try clear c35
         try clear c35b0
         try clear c36
         try clear c36b0
         try clear c37
         try clear c37b0
         try clear c39
         try clear c39b0
         try clear c40
         try clear c40b0
         try clear hx14_0
         try clear hx26_0
         try clear hx468_0
         try clear hx469_0
         try clear hx473_0
         try clear hx474_0
         try clear hx475_0
         try clear hx476_0
         try clear hx477_0
         try clear hx479_0
         try clear hx480_0
         try clear hx481_0
         try clear hx482_0
         try clear hx483_0
         try clear hx485_0
         try clear hx486_0
         try clear hx487_0
         try clear hx488_0
         try clear hx489_0
         try clear p1
         try clear p14
         try clear p2
         try clear p26
         try clear p4
         try clear p468
         try clear p469
         try clear p473
         try clear p474
         try clear p475
         try clear p476
         try clear p477
         try clear p479
         try clear p480
         try clear p481
         try clear p482
         try clear p483
         try clear p485
         try clear p486
         try clear p487
         try clear p488
         try clear p489
         try clear p6
         try clear q1
         try clear q14
         try clear q2
         try clear q26
         try clear q4
         try clear q468
         try clear q469
         try clear q473
         try clear q474
         try clear q475
         try clear q476
         try clear q477
         try clear q479
         try clear q480
         try clear q481
         try clear q482
         try clear q483
         try clear q485
         try clear q486
         try clear q487
         try clear q488
         try clear q489
         obtain ⟨x10_3,x11_3,rfl,HA,HK3,HO_4,HO_10,HB⟩:=hrel
         cases gk with
         | zero=>exact absurd HA.out (by simp [cubitref25_Table.l4])
         | succ k3 =>
          have H:=HA.out
          clear HA
          simp only [cubitref25_Table.l4] at H
          by_cases c41:x11_3<(l0.length:Int)
          ·rw [if_pos c41] at H
           have c41b0:decide (x11_3<(l0.length:Int))=true:=decide_eq_true c41
           clear c41
           have H':=Aside0.mk H
           clear H
           go_wp2
           repeat (go_quiet (fail); try go_wp2)
           go_loopg [10,12] k3 (fun kq v10 v12 w'=>∃ (x10_4:List Int) (x12_4:Int),v12 = .int .i64 x12_4∧Aside0 (cubitref25_Table.l5 kq l0 x4_1 x10_4 x11_3 x12_4=some (r1,r2))∧Aside0 (kq≤k3)∧Aside0 (Kd.R (Kd.int .i64) 3 w' w.heap.size (fun _=>True) u4 x4_1)∧Aside0 (Kd.R (Kd.int .u8) 5 w' w.heap.size (fun _=>True) v10 x10_4)∧Aside0 (Below w.heap.size w w'))
           case atStart=>exact ⟨(x10_3),(0),(by first|rfl|(simp; done)|(simp [*]; done)),H',⟨Nat.le_refl _⟩,⟨by (with_reducible repeat (first|apply Kd.R_alloc|apply Kd.R_drewN|apply Kd.R_drew)); exact HO_4.out⟩,⟨by (with_reducible repeat (first|apply Kd.R_alloc|apply Kd.R_drewN|apply Kd.R_drew)); exact HO_10.out⟩,⟨by repeat (first|(with_reducible first|exact HB.out|apply below_alloc|apply pw_below_drewN|apply below_drew1)|exact HB.out)⟩⟩
           case round =>
            clear H'
            try clear c1
            try clear p1
            try clear q1
            try clear hx1
            try clear hf1
            try clear c2
            try clear c2b0
            try clear c2b1
            try clear p2
            try clear q2
            try clear hx2
            try clear hf2
            try clear c3
            try clear c3b0
            try clear c4
            try clear c4b0
            try clear p4
            try clear q4
            try clear hx4
            try clear c5
            try clear c5b0
            try clear c5b1
            try clear c6
            try clear c6b0
            try clear p6
            try clear c7
            try clear c7b0
            try clear c8
            try clear c8b0
            try clear c9
            try clear c9b0
            try clear c9b1
            try clear c10
            try clear c11
            try clear c11b0
            try clear c12
            try clear c12b0
            try clear c13
            try clear c13b0
            try clear p14
            try clear q14
            try clear hx14
            try clear hf14
            try clear c23
            try clear c23b0
            try clear c24
            try clear c24b0
            try clear c25
            try clear c25b0
            try clear p26
            try clear q26
            try clear hx26
            try clear hf26
            try clear c27
            try clear c31
            try clear c31b0
            try clear c32
            try clear c32b0
            try clear c33
            try clear c33b0
            try clear c34
            try clear c34b0
            try clear c35
            try clear c35b0
            try clear c36
            try clear c36b0
            try clear c37
            try clear c37b0
            try clear c39
            try clear c39b0
            try clear c40
            try clear c40b0
            try clear c41
            try clear c41b0
            try clear hx14_0
            try clear hx26_0
            try clear hx468_0
            try clear hx469_0
            try clear hx473_0
            try clear hx474_0
            try clear hx475_0
            try clear hx476_0
            try clear hx477_0
            try clear hx479_0
            try clear hx480_0
            try clear hx481_0
            try clear hx482_0
            try clear hx483_0
            try clear hx485_0
            try clear hx486_0
            try clear hx487_0
            try clear hx488_0
            try clear hx489_0
            try clear p1
            try clear p14
            try clear p2
            try clear p26
            try clear p4
            try clear p468
            try clear p469
            try clear p473
            try clear p474
            try clear p475
            try clear p476
            try clear p477
            try clear p479
            try clear p480
            try clear p481
            try clear p482
            try clear p483
            try clear p485
            try clear p486
            try clear p487
            try clear p488
            try clear p489
            try clear p6
            try clear q1
            try clear q14
            try clear q2
            try clear q26
            try clear q4
            try clear q468
            try clear q469
            try clear q473
            try clear q474
            try clear q475
            try clear q476
            try clear q477
            try clear q479
            try clear q480
            try clear q481
            try clear q482
            try clear q483
            try clear q485
            try clear q486
            try clear q487
            try clear q488
            try clear q489
            obtain ⟨x10_4,x12_4,rfl,HA,HK4,HO_4,HO_10,HB⟩:=hrel
            cases gk with
            | zero=>exact absurd HA.out (by simp [cubitref25_Table.l5])
            | succ k4 =>
             have H:=HA.out
             clear HA
             simp only [cubitref25_Table.l5] at H
             by_cases c42:0≤x11_3
             ·rw [if_pos c42] at H
              have c42b0:decide (0≤x11_3)=true:=decide_eq_true c42
              clear c42
              by_cases c43:x11_3<(l0.length:Int)
              ·rw [if_pos c43] at H
               have c43b0:decide (x11_3<(l0.length:Int))=true:=decide_eq_true c43
               clear c43
               by_cases c44:x12_4<((rd_L4 l0 x11_3).length:Int)
               ·rw [if_pos c44] at H
                have c44b0:decide (x12_4<((rd_L4 l0 x11_3).length:Int))=true:=decide_eq_true c44
                clear c44
                have H':=Aside0.mk H
                clear H
                have p490:0≤(x11_3:Int):=of_decide_eq_true (by first|(with_reducible assumption)|assumption)
                have q490:x11_3<(l0.length:Int):=of_decide_eq_true (by first|(with_reducible assumption)|assumption)
                obtain ⟨ad490,A490_0,c490_0,e490,hx490_0,hl490_0,hi490_0⟩:=at_L4 HR0.out x11_3 p490 q490
                cases e490
                replace hx490_0:=(HB.out.cell (World.block_lt_of_cell? w _ hx490_0)).trans hx490_0
                have HR490_0:=Aside0.mk hi490_0
                have HC490_0:=Aside0.mk hl490_0
                clear hi490_0 hl490_0
                replace p490:=eq_true p490
                replace q490:=eq_true q490
                go_wp2
                repeat (go_quiet (fail); try go_wp2)
                go_loopg [13] k4 (fun kq v13 w'=>∃ (x13_5:Int),v13 = .int .i64 x13_5∧Aside0 (cubitref25_Table.l6 kq l0 x4_1 x10_4 x11_3 x12_4 x13_5=some (r1,r2))∧Aside0 (kq≤k4)∧Aside0 (Kd.R (Kd.int .i64) 3 w' w.heap.size (fun _=>True) u4 x4_1)∧Aside0 (Kd.R (Kd.int .u8) 5 w' w.heap.size (fun _=>True) u10 x10_4)∧Aside0 (Below w.heap.size w w'))
                case atStart=>exact ⟨(0),(by first|rfl|(simp; done)|(simp [*]; done)),H',⟨Nat.le_refl _⟩,⟨by (with_reducible repeat (first|apply Kd.R_alloc|apply Kd.R_drewN|apply Kd.R_drew)); exact HO_4.out⟩,⟨by (with_reducible repeat (first|apply Kd.R_alloc|apply Kd.R_drewN|apply Kd.R_drew)); exact HO_10.out⟩,⟨by repeat (first|(with_reducible first|exact HB.out|apply below_alloc|apply pw_below_drewN|apply below_drew1)|exact HB.out)⟩⟩
                case round =>
                 clear H'
                 try clear c1
                 try clear p1
                 try clear q1
                 try clear hx1
                 try clear hf1
                 try clear c2
                 try clear c2b0
                 try clear c2b1
                 try clear p2
                 try clear q2
                 try clear hx2
                 try clear hf2
                 try clear c3
                 try clear c3b0
                 try clear c4
                 try clear c4b0
                 try clear p4
                 try clear q4
                 try clear hx4
                 try clear c5
                 try clear c5b0
                 try clear c5b1
                 try clear c6
                 try clear c6b0
                 try clear p6
                 try clear c7
                 try clear c7b0
                 try clear c8
                 try clear c8b0
                 try clear c9
                 try clear c9b0
                 try clear c9b1
                 try clear c10
                 try clear c11
                 try clear c11b0
                 try clear c12
                 try clear c12b0
                 try clear c13
                 try clear c13b0
                 try clear p14
                 try clear q14
                 try clear hx14
                 try clear hf14
                 try clear c23
                 try clear c23b0
                 try clear c24
                 try clear c24b0
                 try clear c25
                 try clear c25b0
                 try clear p26
                 try clear q26
                 try clear hx26
                 try clear hf26
                 try clear c27
                 try clear c31
                 try clear c31b0
                 try clear c32
                 try clear c32b0
                 try clear c33
                 try clear c33b0
                 try clear c34
                 try clear c34b0
                 try clear c35
                 try clear c35b0
                 try clear c36
                 try clear c36b0
                 try clear c37
                 try clear c37b0
                 try clear c39
                 try clear c39b0
                 try clear c40
                 try clear c40b0
                 try clear c41
                 try clear c41b0
                 try clear c42
                 try clear c42b0
                 try clear c43
                 try clear c43b0
                 try clear c44
                 try clear c44b0
                 try clear p44
                 try clear q44
                 try clear hx44
                 try clear hx14_0
                 try clear hx26_0
                 try clear hx468_0
                 try clear hx469_0
                 try clear hx473_0
                 try clear hx474_0
                 try clear hx475_0
                 try clear hx476_0
                 try clear hx477_0
                 try clear hx479_0
                 try clear hx480_0
                 try clear hx481_0
                 try clear hx482_0
                 try clear hx483_0
                 try clear hx485_0
                 try clear hx486_0
                 try clear hx487_0
                 try clear hx488_0
                 try clear hx489_0
                 try clear hx490_0
                 try clear p1
                 try clear p14
                 try clear p2
                 try clear p26
                 try clear p4
                 try clear p468
                 try clear p469
                 try clear p473
                 try clear p474
                 try clear p475
                 try clear p476
                 try clear p477
                 try clear p479
                 try clear p480
                 try clear p481
                 try clear p482
                 try clear p483
                 try clear p485
                 try clear p486
                 try clear p487
                 try clear p488
                 try clear p489
                 try clear p490
                 try clear p6
                 try clear q1
                 try clear q14
                 try clear q2
                 try clear q26
                 try clear q4
                 try clear q468
                 try clear q469
                 try clear q473
                 try clear q474
                 try clear q475
                 try clear q476
                 try clear q477
                 try clear q479
                 try clear q480
                 try clear q481
                 try clear q482
                 try clear q483
                 try clear q485
                 try clear q486
                 try clear q487
                 try clear q488
                 try clear q489
                 try clear q490
                 obtain ⟨x13_5,rfl,HA,HK5,HO_4,HO_10,HB⟩:=hrel
                 cases gk with
                 | zero=>exact absurd HA.out (by simp [cubitref25_Table.l6])
                 | succ k5 =>
                  have H:=HA.out
                  clear HA
                  simp only [cubitref25_Table.l6] at H
                  by_cases c45:0≤x11_3
                  ·rw [if_pos c45] at H
                   have c45b0:decide (0≤x11_3)=true:=decide_eq_true c45
                   clear c45
                   by_cases c46:x11_3<(l0.length:Int)
                   ·rw [if_pos c46] at H
                    have c46b0:decide (x11_3<(l0.length:Int))=true:=decide_eq_true c46
                    clear c46
                    by_cases c47:0≤x12_4
                    ·rw [if_pos c47] at H
                     have c47b0:decide (0≤x12_4)=true:=decide_eq_true c47
                     clear c47
                     by_cases c48:x12_4<((rd_L4 l0 x11_3).length:Int)
                     ·rw [if_pos c48] at H
                      have c48b0:decide (x12_4<((rd_L4 l0 x11_3).length:Int))=true:=decide_eq_true c48
                      clear c48
                      by_cases c49:x13_5<((rdOf ByteArray.empty (rd_L4 l0 x11_3) x12_4).size:Int)
                      ·rw [if_pos c49] at H
                       have c49b0:decide (x13_5<((rdOf ByteArray.empty (rd_L4 l0 x11_3) x12_4).size:Int))=true:=decide_eq_true c49
                       clear c49
                       by_cases c50:0≤x13_5
                       ·rw [if_pos c50] at H
                        have c50b0:decide (0≤x13_5)=true:=decide_eq_true c50
                        clear c50
                        by_cases c52:(bt (rdOf ByteArray.empty (rd_L4 l0 x11_3) x12_4) x13_5)<32
                        ·rw [if_pos c52] at H
                         have c52b0:decide ((bt (rdOf ByteArray.empty (rd_L4 l0 x11_3) x12_4) x13_5)<32)=true:=decide_eq_true c52
                         clear c52
                         simp only [Option.some.injEq,Prod.mk.injEq] at H
                         obtain ⟨rfl,rfl⟩:=H
                         have p494:0≤(x11_3:Int):=of_decide_eq_true (by first|(with_reducible assumption)|assumption)
                         have q494:x11_3<(l0.length:Int):=of_decide_eq_true (by first|(with_reducible assumption)|assumption)
                         obtain ⟨ad494,A494_0,c494_0,e494,hx494_0,hl494_0,hi494_0⟩:=at_L4 HR0.out x11_3 p494 q494
                         obtain rfl:ad490=ad494:=(by injection e494)
                         replace hx494_0:=(HB.out.cell (World.block_lt_of_cell? w _ hx494_0)).trans hx494_0
                         have HR494_0:=Aside0.mk hi494_0
                         have HC494_0:=Aside0.mk hl494_0
                         clear hi494_0 hl494_0
                         replace p494:=eq_true p494
                         replace q494:=eq_true q494
                         have p495:0≤(x12_4:Int):=of_decide_eq_true (by first|(with_reducible assumption)|assumption)
                         have q495:x12_4<((rd_L4 l0 x11_3).length:Int):=of_decide_eq_true (by first|(with_reducible assumption)|assumption)
                         obtain ⟨ad495,e495,hx495_0⟩:=Kd.at_string HR494_0.out x12_4 p495 q495
                         cases e495
                         replace hx495_0:=(HB.out.cell (World.block_lt_of_cell? w _ hx495_0)).trans hx495_0
                         replace p495:=eq_true p495
                         replace q495:=eq_true q495
                         have p496:0≤(x11_3:Int):=of_decide_eq_true (by first|(with_reducible assumption)|assumption)
                         have q496:x11_3<(l0.length:Int):=of_decide_eq_true (by first|(with_reducible assumption)|assumption)
                         obtain ⟨ad496,A496_0,c496_0,e496,hx496_0,hl496_0,hi496_0⟩:=at_L4 HR0.out x11_3 p496 q496
                         obtain rfl:ad490=ad496:=(by injection e496)
                         replace hx496_0:=(HB.out.cell (World.block_lt_of_cell? w _ hx496_0)).trans hx496_0
                         have HR496_0:=Aside0.mk hi496_0
                         have HC496_0:=Aside0.mk hl496_0
                         clear hi496_0 hl496_0
                         replace p496:=eq_true p496
                         replace q496:=eq_true q496
                         have ea_:=Option.some.inj (hx494_0.symm.trans hx496_0)
                         injection ea_ with ea_ en_ ec_
                         subst ea_
                         subst ec_
                         clear en_
                         have p497:0≤(x12_4:Int):=of_decide_eq_true (by first|(with_reducible assumption)|assumption)
                         have q497:x12_4<((rd_L4 l0 x11_3).length:Int):=of_decide_eq_true (by first|(with_reducible assumption)|assumption)
                         obtain ⟨ad497,e497,hx497_0⟩:=Kd.at_string HR496_0.out x12_4 p497 q497
                         cases e497
                         replace hx497_0:=(HB.out.cell (World.block_lt_of_cell? w _ hx497_0)).trans hx497_0
                         replace p497:=eq_true p497
                         replace q497:=eq_true q497
                         have p51:0≤(x13_5:Int):=of_decide_eq_true (by first|(with_reducible assumption)|assumption)
                         have q51:x13_5<((rdOf ByteArray.empty (rd_L4 l0 x11_3) x12_4).size:Int):=of_decide_eq_true (by first|(with_reducible assumption)|assumption)
                         have hx51:=bt_at (rdOf ByteArray.empty (rd_L4 l0 x11_3) x12_4) x13_5
                         replace p51:=eq_true p51
                         replace q51:=eq_true q51
                         go_wp2
                         repeat (go_quiet (fail); try go_wp2)
                         go_ret2
                         exact ⟨by first|rfl|(simp [errW_none,errW_some]<;>rfl)|(simp [*,errW_none,errW_some]<;>rfl),by repeat (first|(with_reducible first|exact HB.out|apply below_alloc|apply pw_below_drewN|apply below_drew1)|exact HB.out)⟩
                        ·rw [if_neg c52] at H
                         have c52b0:decide ((bt (rdOf ByteArray.empty (rd_L4 l0 x11_3) x12_4) x13_5)<32)=false:=decide_eq_false c52
                         clear c52
                         have H':=Aside0.mk H
                         clear H
                         have p494:0≤(x11_3:Int):=of_decide_eq_true (by first|(with_reducible assumption)|assumption)
                         have q494:x11_3<(l0.length:Int):=of_decide_eq_true (by first|(with_reducible assumption)|assumption)
                         obtain ⟨ad494,A494_0,c494_0,e494,hx494_0,hl494_0,hi494_0⟩:=at_L4 HR0.out x11_3 p494 q494
                         obtain rfl:ad490=ad494:=(by injection e494)
                         replace hx494_0:=(HB.out.cell (World.block_lt_of_cell? w _ hx494_0)).trans hx494_0
                         have HR494_0:=Aside0.mk hi494_0
                         have HC494_0:=Aside0.mk hl494_0
                         clear hi494_0 hl494_0
                         replace p494:=eq_true p494
                         replace q494:=eq_true q494
                         have p495:0≤(x12_4:Int):=of_decide_eq_true (by first|(with_reducible assumption)|assumption)
                         have q495:x12_4<((rd_L4 l0 x11_3).length:Int):=of_decide_eq_true (by first|(with_reducible assumption)|assumption)
                         obtain ⟨ad495,e495,hx495_0⟩:=Kd.at_string HR494_0.out x12_4 p495 q495
                         cases e495
                         replace hx495_0:=(HB.out.cell (World.block_lt_of_cell? w _ hx495_0)).trans hx495_0
                         replace p495:=eq_true p495
                         replace q495:=eq_true q495
                         have p496:0≤(x11_3:Int):=of_decide_eq_true (by first|(with_reducible assumption)|assumption)
                         have q496:x11_3<(l0.length:Int):=of_decide_eq_true (by first|(with_reducible assumption)|assumption)
                         obtain ⟨ad496,A496_0,c496_0,e496,hx496_0,hl496_0,hi496_0⟩:=at_L4 HR0.out x11_3 p496 q496
                         obtain rfl:ad490=ad496:=(by injection e496)
                         replace hx496_0:=(HB.out.cell (World.block_lt_of_cell? w _ hx496_0)).trans hx496_0
                         have HR496_0:=Aside0.mk hi496_0
                         have HC496_0:=Aside0.mk hl496_0
                         clear hi496_0 hl496_0
                         replace p496:=eq_true p496
                         replace q496:=eq_true q496
                         have ea_:=Option.some.inj (hx494_0.symm.trans hx496_0)
                         injection ea_ with ea_ en_ ec_
                         subst ea_
                         subst ec_
                         clear en_
                         have p497:0≤(x12_4:Int):=of_decide_eq_true (by first|(with_reducible assumption)|assumption)
                         have q497:x12_4<((rd_L4 l0 x11_3).length:Int):=of_decide_eq_true (by first|(with_reducible assumption)|assumption)
                         obtain ⟨ad497,e497,hx497_0⟩:=Kd.at_string HR496_0.out x12_4 p497 q497
                         cases e497
                         replace hx497_0:=(HB.out.cell (World.block_lt_of_cell? w _ hx497_0)).trans hx497_0
                         replace p497:=eq_true p497
                         replace q497:=eq_true q497
                         have p51:0≤(x13_5:Int):=of_decide_eq_true (by first|(with_reducible assumption)|assumption)
                         have q51:x13_5<((rdOf ByteArray.empty (rd_L4 l0 x11_3) x12_4).size:Int):=of_decide_eq_true (by first|(with_reducible assumption)|assumption)
                         have hx51:=bt_at (rdOf ByteArray.empty (rd_L4 l0 x11_3) x12_4) x13_5
                         replace p51:=eq_true p51
                         replace q51:=eq_true q51
                         go_wp2
                         repeat (go_quiet (fail); try go_wp2)
                         go_roundg k5
                         case measure=>have:=HK1.out; have:=HK2.out; have:=HK3.out; have:=HK4.out; have:=HK5.out; omega
                         case rel=>exact ⟨(wrap64 (x13_5+1)),(by first|rfl|(simp; done)|(simp [*]; done)),H',⟨by have:=HK1.out; have:=HK2.out; have:=HK3.out; have:=HK4.out; have:=HK5.out; omega⟩,⟨by (with_reducible repeat (first|apply Kd.R_alloc|apply Kd.R_drewN|apply Kd.R_drew)); exact HO_4.out⟩,⟨by (with_reducible repeat (first|apply Kd.R_alloc|apply Kd.R_drewN|apply Kd.R_drew)); exact HO_10.out⟩,⟨by repeat (first|(with_reducible first|exact HB.out|apply below_alloc|apply pw_below_drewN|apply below_drew1)|exact HB.out)⟩⟩
                       ·rw [if_neg c50] at H
                        exact absurd H (by simp)
                      ·rw [if_neg c49] at H
                       have c49b0:decide (x13_5<((rdOf ByteArray.empty (rd_L4 l0 x11_3) x12_4).size:Int))=false:=decide_eq_false c49
                       clear c49
                       by_cases c53:x10_4.length+(rdOf ByteArray.empty (rd_L4 l0 x11_3) x12_4).size<140737488355328
                       ·rw [if_pos c53] at H
                        have LMc53:=Aside0.mk c53
                        clear c53
                        obtain ⟨y500,hy500⟩:∃ y_:List Int,y_=(x10_4++bytesOf (rdOf ByteArray.empty (rd_L4 l0 x11_3) x12_4)):=⟨_,rfl⟩
                        replace H:(cubitref25_Table.l7 k5 l0 x4_1 y500 x11_3 x12_4 ((rdOf ByteArray.empty (rd_L4 l0 x11_3) x12_4).size:Int))=some (r1,r2):=by first|(rw [hy500]; with_reducible exact H)|(have H2_:=(Option.bind_some _ _).symm.trans H; rw [hy500]; with_reducible exact H2_)|(have H2_:=(Option.bind_some _ _).symm.trans H; with_reducible exact H2_)|with_reducible exact H|(rw [hy500]; exact H)|exact H
                        have Ny500:=Aside0.mk hy500
                        clear hy500
                        have H':=Aside0.mk H
                        clear H
                        have p494:0≤(x11_3:Int):=of_decide_eq_true (by first|(with_reducible assumption)|assumption)
                        have q494:x11_3<(l0.length:Int):=of_decide_eq_true (by first|(with_reducible assumption)|assumption)
                        obtain ⟨ad494,A494_0,c494_0,e494,hx494_0,hl494_0,hi494_0⟩:=at_L4 HR0.out x11_3 p494 q494
                        obtain rfl:ad490=ad494:=(by injection e494)
                        replace hx494_0:=(HB.out.cell (World.block_lt_of_cell? w _ hx494_0)).trans hx494_0
                        have HR494_0:=Aside0.mk hi494_0
                        have HC494_0:=Aside0.mk hl494_0
                        clear hi494_0 hl494_0
                        replace p494:=eq_true p494
                        replace q494:=eq_true q494
                        have p495:0≤(x12_4:Int):=of_decide_eq_true (by first|(with_reducible assumption)|assumption)
                        have q495:x12_4<((rd_L4 l0 x11_3).length:Int):=of_decide_eq_true (by first|(with_reducible assumption)|assumption)
                        obtain ⟨ad495,e495,hx495_0⟩:=Kd.at_string HR494_0.out x12_4 p495 q495
                        cases e495
                        replace hx495_0:=(HB.out.cell (World.block_lt_of_cell? w _ hx495_0)).trans hx495_0
                        replace p495:=eq_true p495
                        replace q495:=eq_true q495
                        have p498:0≤(x11_3:Int):=of_decide_eq_true (by first|(with_reducible assumption)|assumption)
                        have q498:x11_3<(l0.length:Int):=of_decide_eq_true (by first|(with_reducible assumption)|assumption)
                        obtain ⟨ad498,A498_0,c498_0,e498,hx498_0,hl498_0,hi498_0⟩:=at_L4 HR0.out x11_3 p498 q498
                        obtain rfl:ad490=ad498:=(by injection e498)
                        replace hx498_0:=(HB.out.cell (World.block_lt_of_cell? w _ hx498_0)).trans hx498_0
                        have HR498_0:=Aside0.mk hi498_0
                        have HC498_0:=Aside0.mk hl498_0
                        clear hi498_0 hl498_0
                        replace p498:=eq_true p498
                        replace q498:=eq_true q498
                        have ea_:=Option.some.inj (hx494_0.symm.trans hx498_0)
                        injection ea_ with ea_ en_ ec_
                        subst ea_
                        subst ec_
                        clear en_
                        have p499:0≤(x12_4:Int):=of_decide_eq_true (by first|(with_reducible assumption)|assumption)
                        have q499:x12_4<((rd_L4 l0 x11_3).length:Int):=of_decide_eq_true (by first|(with_reducible assumption)|assumption)
                        obtain ⟨ad499,e499,hx499_0⟩:=Kd.at_string HR498_0.out x12_4 p499 q499
                        cases e499
                        replace hx499_0:=(HB.out.cell (World.block_lt_of_cell? w _ hx499_0)).trans hx499_0
                        replace p499:=eq_true p499
                        replace q499:=eq_true q499
                        go_wp2_with (first|(at_builtin; refine print_append_str (w0:=w) w.heap.size rfl (.tmp 151) _ 95 9 5 rfl Tryz.underlying95 Tryz.underlying9 info5 u10 x10_4 (rdOf ByteArray.empty (rd_L4 l0 x11_3) x12_4) rfl rfl ?aO ?aB ?aS ?aL ?_; (case aB=>exact (by repeat (first|(with_reducible first|exact HB.out|apply below_alloc|apply pw_below_drewN|apply below_drew1)|exact HB.out))); (case aO=>exact (Kd.own_of_R (by (with_reducible repeat (first|apply Kd.R_alloc|apply Kd.R_drewN|apply Kd.R_drew)); exact HO_10.out))); (case aS=>exact (below_size (by repeat (first|(with_reducible first|exact HB.out|apply below_alloc|apply pw_below_drewN|apply below_drew1)|exact HB.out)))); (case aL=>have:=LMc53.out; omega); intro v501 w54 ho0 hb hg; have ho:=Kd.R_of_own (h1:=fun _=>rfl) (ok:=fun _=>True) ho0 (fun _ _=>trivial); clear ho0; have hat:=True.intro; rw [←Ny500.out] at ho; change Kd.R (Kd.int .u8) 5 w54 w.heap.size (fun _=>True) v501 y500 at ho; have n0_:=Aside0.mk (Kd.R_over' (by (with_reducible repeat (first|apply Kd.R_alloc|apply Kd.R_drewN|apply Kd.R_drew)); exact HO_4.out) (Kd.R_typed (by (with_reducible repeat (first|apply Kd.R_alloc|apply Kd.R_drewN|apply Kd.R_drew)); exact HO_10.out)) (by decide) hg); have n1_:=Aside0.mk (hb); have n2_:=Aside0.mk (ho); clear HO_4; clear HB; clear HO_10; have HO_4:=n0_; have HB:=n1_; have HO502:=n2_; clear n0_ n1_ n2_; clear ho hb hg hat; have p503:0≤(x11_3:Int):=of_decide_eq_true (by first|(with_reducible assumption)|assumption); have q503:x11_3<(l0.length:Int):=of_decide_eq_true (by first|(with_reducible assumption)|assumption); obtain ⟨ad503,A503_0,c503_0,e503,hx503_0,hl503_0,hi503_0⟩:=at_L4 HR0.out x11_3 p503 q503; obtain rfl:ad490=ad503:=(by injection e503); replace hx503_0:=(HB.out.cell (World.block_lt_of_cell? w _ hx503_0)).trans hx503_0; have HR503_0:=Aside0.mk hi503_0; have HC503_0:=Aside0.mk hl503_0; clear hi503_0 hl503_0; replace p503:=eq_true p503; replace q503:=eq_true q503; have p504:0≤(x12_4:Int):=of_decide_eq_true (by first|(with_reducible assumption)|assumption); have q504:x12_4<((rd_L4 l0 x11_3).length:Int):=of_decide_eq_true (by first|(with_reducible assumption)|assumption); obtain ⟨ad504,e504,hx504_0⟩:=Kd.at_string HR503_0.out x12_4 p504 q504; cases e504; replace hx504_0:=(HB.out.cell (World.block_lt_of_cell? w _ hx504_0)).trans hx504_0; replace p504:=eq_true p504; replace q504:=eq_true q504))
                        repeat (go_quiet (first|(at_builtin; refine print_append_str (w0:=w) w.heap.size rfl (.tmp 151) _ 95 9 5 rfl Tryz.underlying95 Tryz.underlying9 info5 u10 x10_4 (rdOf ByteArray.empty (rd_L4 l0 x11_3) x12_4) rfl rfl ?aO ?aB ?aS ?aL ?_; (case aB=>exact (by repeat (first|(with_reducible first|exact HB.out|apply below_alloc|apply pw_below_drewN|apply below_drew1)|exact HB.out))); (case aO=>exact (Kd.own_of_R (by (with_reducible repeat (first|apply Kd.R_alloc|apply Kd.R_drewN|apply Kd.R_drew)); exact HO_10.out))); (case aS=>exact (below_size (by repeat (first|(with_reducible first|exact HB.out|apply below_alloc|apply pw_below_drewN|apply below_drew1)|exact HB.out)))); (case aL=>have:=LMc53.out; omega); intro v501 w54 ho0 hb hg; have ho:=Kd.R_of_own (h1:=fun _=>rfl) (ok:=fun _=>True) ho0 (fun _ _=>trivial); clear ho0; have hat:=True.intro; rw [←Ny500.out] at ho; change Kd.R (Kd.int .u8) 5 w54 w.heap.size (fun _=>True) v501 y500 at ho; have n0_:=Aside0.mk (Kd.R_over' (by (with_reducible repeat (first|apply Kd.R_alloc|apply Kd.R_drewN|apply Kd.R_drew)); exact HO_4.out) (Kd.R_typed (by (with_reducible repeat (first|apply Kd.R_alloc|apply Kd.R_drewN|apply Kd.R_drew)); exact HO_10.out)) (by decide) hg); have n1_:=Aside0.mk (hb); have n2_:=Aside0.mk (ho); clear HO_4; clear HB; clear HO_10; have HO_4:=n0_; have HB:=n1_; have HO502:=n2_; clear n0_ n1_ n2_; clear ho hb hg hat; have p503:0≤(x11_3:Int):=of_decide_eq_true (by first|(with_reducible assumption)|assumption); have q503:x11_3<(l0.length:Int):=of_decide_eq_true (by first|(with_reducible assumption)|assumption); obtain ⟨ad503,A503_0,c503_0,e503,hx503_0,hl503_0,hi503_0⟩:=at_L4 HR0.out x11_3 p503 q503; obtain rfl:ad490=ad503:=(by injection e503); replace hx503_0:=(HB.out.cell (World.block_lt_of_cell? w _ hx503_0)).trans hx503_0; have HR503_0:=Aside0.mk hi503_0; have HC503_0:=Aside0.mk hl503_0; clear hi503_0 hl503_0; replace p503:=eq_true p503; replace q503:=eq_true q503; have p504:0≤(x12_4:Int):=of_decide_eq_true (by first|(with_reducible assumption)|assumption); have q504:x12_4<((rd_L4 l0 x11_3).length:Int):=of_decide_eq_true (by first|(with_reducible assumption)|assumption); obtain ⟨ad504,e504,hx504_0⟩:=Kd.at_string HR503_0.out x12_4 p504 q504; cases e504; replace hx504_0:=(HB.out.cell (World.block_lt_of_cell? w _ hx504_0)).trans hx504_0; replace p504:=eq_true p504; replace q504:=eq_true q504)); try go_wp2_with (first|(at_builtin; refine print_append_str (w0:=w) w.heap.size rfl (.tmp 151) _ 95 9 5 rfl Tryz.underlying95 Tryz.underlying9 info5 u10 x10_4 (rdOf ByteArray.empty (rd_L4 l0 x11_3) x12_4) rfl rfl ?aO ?aB ?aS ?aL ?_; (case aB=>exact (by repeat (first|(with_reducible first|exact HB.out|apply below_alloc|apply pw_below_drewN|apply below_drew1)|exact HB.out))); (case aO=>exact (Kd.own_of_R (by (with_reducible repeat (first|apply Kd.R_alloc|apply Kd.R_drewN|apply Kd.R_drew)); exact HO_10.out))); (case aS=>exact (below_size (by repeat (first|(with_reducible first|exact HB.out|apply below_alloc|apply pw_below_drewN|apply below_drew1)|exact HB.out)))); (case aL=>have:=LMc53.out; omega); intro v501 w54 ho0 hb hg; have ho:=Kd.R_of_own (h1:=fun _=>rfl) (ok:=fun _=>True) ho0 (fun _ _=>trivial); clear ho0; have hat:=True.intro; rw [←Ny500.out] at ho; change Kd.R (Kd.int .u8) 5 w54 w.heap.size (fun _=>True) v501 y500 at ho; have n0_:=Aside0.mk (Kd.R_over' (by (with_reducible repeat (first|apply Kd.R_alloc|apply Kd.R_drewN|apply Kd.R_drew)); exact HO_4.out) (Kd.R_typed (by (with_reducible repeat (first|apply Kd.R_alloc|apply Kd.R_drewN|apply Kd.R_drew)); exact HO_10.out)) (by decide) hg); have n1_:=Aside0.mk (hb); have n2_:=Aside0.mk (ho); clear HO_4; clear HB; clear HO_10; have HO_4:=n0_; have HB:=n1_; have HO502:=n2_; clear n0_ n1_ n2_; clear ho hb hg hat; have p503:0≤(x11_3:Int):=of_decide_eq_true (by first|(with_reducible assumption)|assumption); have q503:x11_3<(l0.length:Int):=of_decide_eq_true (by first|(with_reducible assumption)|assumption); obtain ⟨ad503,A503_0,c503_0,e503,hx503_0,hl503_0,hi503_0⟩:=at_L4 HR0.out x11_3 p503 q503; obtain rfl:ad490=ad503:=(by injection e503); replace hx503_0:=(HB.out.cell (World.block_lt_of_cell? w _ hx503_0)).trans hx503_0; have HR503_0:=Aside0.mk hi503_0; have HC503_0:=Aside0.mk hl503_0; clear hi503_0 hl503_0; replace p503:=eq_true p503; replace q503:=eq_true q503; have p504:0≤(x12_4:Int):=of_decide_eq_true (by first|(with_reducible assumption)|assumption); have q504:x12_4<((rd_L4 l0 x11_3).length:Int):=of_decide_eq_true (by first|(with_reducible assumption)|assumption); obtain ⟨ad504,e504,hx504_0⟩:=Kd.at_string HR503_0.out x12_4 p504 q504; cases e504; replace hx504_0:=(HB.out.cell (World.block_lt_of_cell? w _ hx504_0)).trans hx504_0; replace p504:=eq_true p504; replace q504:=eq_true q504)))
                        go_loopg [10,14] k5 (fun kq v10 v14 w'=>∃ (x10_6:List Int) (x14_6:Int),v14 = .int .i64 x14_6∧Aside0 (cubitref25_Table.l7 kq l0 x4_1 x10_6 x11_3 x12_4 x14_6=some (r1,r2))∧Aside0 (kq≤k5)∧Aside0 (Kd.R (Kd.int .i64) 3 w' w.heap.size (fun _=>True) u4 x4_1)∧Aside0 (Kd.R (Kd.int .u8) 5 w' w.heap.size (fun _=>True) v10 x10_6)∧Aside0 (Below w.heap.size w w'))
                        case atStart=>exact ⟨(y500),(((rdOf ByteArray.empty (rd_L4 l0 x11_3) x12_4).size:Int)),(by first|rfl|(simp; done)|(simp [*]; done)),H',⟨Nat.le_refl _⟩,⟨by (with_reducible repeat (first|apply Kd.R_alloc|apply Kd.R_drewN|apply Kd.R_drew)); exact HO_4.out⟩,⟨by (with_reducible repeat (first|apply Kd.R_alloc|apply Kd.R_drewN|apply Kd.R_drew)); exact HO502.out⟩,⟨by repeat (first|(with_reducible first|exact HB.out|apply below_alloc|apply pw_below_drewN|apply below_drew1)|exact HB.out)⟩⟩
                        case round =>
                         clear H'
                         try clear c1
                         try clear p1
                         try clear q1
                         try clear hx1
                         try clear hf1
                         try clear c2
                         try clear c2b0
                         try clear c2b1
                         try clear p2
                         try clear q2
                         try clear hx2
                         try clear hf2
                         try clear c3
                         try clear c3b0
                         try clear c4
                         try clear c4b0
                         try clear p4
                         try clear q4
                         try clear hx4
                         try clear c5
                         try clear c5b0
                         try clear c5b1
                         try clear p5
                         try clear q5
                         try clear hx5
                         try clear c6
                         try clear c6b0
                         try clear p6
                         try clear c7
                         try clear c7b0
                         try clear c8
                         try clear c8b0
                         try clear c9
                         try clear c9b0
                         try clear c9b1
                         try clear c10
                         try clear c11
                         try clear c11b0
                         try clear c12
                         try clear c12b0
                         try clear c13
                         try clear c13b0
                         try clear p14
                         try clear q14
                         try clear hx14
                         try clear hf14
                         try clear c23
                         try clear c23b0
                         try clear c24
                         try clear c24b0
                         try clear c25
                         try clear c25b0
                         try clear p26
                         try clear q26
                         try clear hx26
                         try clear hf26
                         try clear c27
                         try clear c31
                         try clear c31b0
                         try clear c32
                         try clear c32b0
                         try clear c33
                         try clear c33b0
                         try clear c34
                         try clear c34b0
                         try clear c35
                         try clear c35b0
                         try clear c36
                         try clear c36b0
                         try clear c37
                         try clear c37b0
                         try clear c39
                         try clear c39b0
                         try clear c40
                         try clear c40b0
                         try clear c41
                         try clear c41b0
                         try clear c42
                         try clear c42b0
                         try clear c43
                         try clear c43b0
                         try clear c44
                         try clear c44b0
                         try clear p44
                         try clear q44
                         try clear hx44
                         try clear c45
                         try clear c45b0
                         try clear p45
                         try clear q45
                         try clear hx45
                         try clear c46
                         try clear c46b0
                         try clear p46
                         try clear q46
                         try clear hx46
                         try clear c47
                         try clear c47b0
                         try clear p47
                         try clear q47
                         try clear hx47
                         try clear c48
                         try clear c48b0
                         try clear p48
                         try clear q48
                         try clear hx48
                         try clear c49
                         try clear c49b0
                         try clear c50
                         try clear c50b0
                         try clear p51
                         try clear q51
                         try clear hx51
                         try clear c52
                         try clear c52b0
                         try clear c53
                         try clear hx14_0
                         try clear hx26_0
                         try clear hx468_0
                         try clear hx469_0
                         try clear hx473_0
                         try clear hx474_0
                         try clear hx475_0
                         try clear hx476_0
                         try clear hx477_0
                         try clear hx479_0
                         try clear hx480_0
                         try clear hx481_0
                         try clear hx482_0
                         try clear hx483_0
                         try clear hx485_0
                         try clear hx486_0
                         try clear hx487_0
                         try clear hx488_0
                         try clear hx489_0
                         try clear hx490_0
                         try clear hx494_0
                         try clear hx495_0
                         try clear hx496_0
                         try clear hx497_0
                         try clear hx498_0
                         try clear hx499_0
                         try clear hx503_0
                         try clear hx504_0
                         try clear p1
                         try clear p14
                         try clear p2
                         try clear p26
                         try clear p4
                         try clear p44
                         try clear p468
                         try clear p469
                         try clear p473
                         try clear p474
                         try clear p475
                         try clear p476
                         try clear p477
                         try clear p479
                         try clear p480
                         try clear p481
                         try clear p482
                         try clear p483
                         try clear p485
                         try clear p486
                         try clear p487
                         try clear p488
                         try clear p489
                         try clear p490
                         try clear p494
                         try clear p495
                         try clear p496
                         try clear p497
                         try clear p498
                         try clear p499
                         try clear p503
                         try clear p504
                         try clear p51
                         try clear p6
                         try clear q1
                         try clear q14
                         try clear q2
                         try clear q26
                         try clear q4
                         try clear q44
                         try clear q468
                         try clear q469
                         try clear q473
                         try clear q474
                         try clear q475
                         try clear q476
                         try clear q477
                         try clear q479
                         try clear q480
                         try clear q481
                         try clear q482
                         try clear q483
                         try clear q485
                         try clear q486
                         try clear q487
                         try clear q488
                         try clear q489
                         try clear q490
                         try clear q494
                         try clear q495
                         try clear q496
                         try clear q497
                         try clear q498
                         try clear q499
                         try clear q503
                         try clear q504
                         try clear q51
                         obtain ⟨x10_6,x14_6,rfl,HA,HK6,HO_4,HO_10,HB⟩:=hrel
                         cases gk with
                         | zero=>exact absurd HA.out (by simp [cubitref25_Table.l7])
                         | succ k6 =>
                          have H:=HA.out
                          clear HA
                          simp only [cubitref25_Table.l7] at H
                          by_cases c55:0≤x12_4
                          ·rw [if_pos c55] at H
                           have c55b0:decide (0≤x12_4)=true:=decide_eq_true c55
                           clear c55
                           by_cases c56:x12_4<(x4_1.length:Int)
                           ·rw [if_pos c56] at H
                            have c56b0:decide (x12_4<(x4_1.length:Int))=true:=decide_eq_true c56
                            clear c56
                            by_cases c57:x14_6<(wrap64 ((rd x4_1 x12_4)+2))
                            ·rw [if_pos c57] at H
                             have c57b0:decide (x14_6<(wrap64 ((rd x4_1 x12_4)+2)))=true:=decide_eq_true c57
                             clear c57
                             by_cases c58:0≤x11_3
                             ·rw [if_pos c58] at H
                              have c58b0:decide (0≤x11_3)=true:=decide_eq_true c58
                              clear c58
                              by_cases c59:x11_3<(l0.length:Int)
                              ·rw [if_pos c59] at H
                               have c59b0:decide (x11_3<(l0.length:Int))=true:=decide_eq_true c59
                               clear c59
                               by_cases c60:x12_4<(wrap64 (((rd_L4 l0 x11_3).length:Int)-1))
                               ·rw [if_pos c60] at H
                                have c60b0:decide (x12_4<(wrap64 (((rd_L4 l0 x11_3).length:Int)-1)))=true:=decide_eq_true c60
                                clear c60
                                by_cases c61:x10_6.length<140737488355328
                                ·rw [if_pos c61] at H
                                 have LMc61:=Aside0.mk c61
                                 clear c61
                                 obtain ⟨y507,hy507⟩:∃ y_:List Int,y_=(x10_6 ++ [32]):=⟨_,rfl⟩
                                 replace H:(cubitref25_Table.l7 k6 l0 x4_1 y507 x11_3 x12_4 (wrap64 (x14_6+1)))=some (r1,r2):=by first|(rw [hy507]; with_reducible exact H)|(have H2_:=(Option.bind_some _ _).symm.trans H; rw [hy507]; with_reducible exact H2_)|(have H2_:=(Option.bind_some _ _).symm.trans H; with_reducible exact H2_)|with_reducible exact H|(rw [hy507]; exact H)|exact H
                                 have Ny507:=Aside0.mk hy507
                                 clear hy507
                                 have H':=Aside0.mk H
                                 clear H
                                 obtain ⟨Ao62,co62,eo62⟩:=Kd.R_slice HO_4.out
                                 subst eo62
                                 have p505:0≤(x12_4:Int):=of_decide_eq_true (by first|(with_reducible assumption)|assumption)
                                 have q505:x12_4<(x4_1.length:Int):=of_decide_eq_true (by first|(with_reducible assumption)|assumption)
                                 obtain ⟨ad505,e505,hx505_0⟩:=Kd.at_int (Kd.R_reads' HO_4.out).2.2 x12_4 p505 q505
                                 cases e505
                                 replace p505:=eq_true p505
                                 replace q505:=eq_true q505
                                 have p506:0≤(x11_3:Int):=of_decide_eq_true (by first|(with_reducible assumption)|assumption)
                                 have q506:x11_3<(l0.length:Int):=of_decide_eq_true (by first|(with_reducible assumption)|assumption)
                                 obtain ⟨ad506,A506_0,c506_0,e506,hx506_0,hl506_0,hi506_0⟩:=at_L4 HR0.out x11_3 p506 q506
                                 obtain rfl:ad490=ad506:=(by injection e506)
                                 replace hx506_0:=(HB.out.cell (World.block_lt_of_cell? w _ hx506_0)).trans hx506_0
                                 have HR506_0:=Aside0.mk hi506_0
                                 have HC506_0:=Aside0.mk hl506_0
                                 clear hi506_0 hl506_0
                                 replace p506:=eq_true p506
                                 replace q506:=eq_true q506
                                 go_wp2_with (first|((with_reducible refine gate_builtin (b:=.append) (xs:=#[.tmp 187,.tmp 188]) rfl ?_); (try (refine gate_guard (by rfl) ?_; dsimp only)); at_builtin; refine Kd.R_append (Kd.int .u8) (w0:=w) w.heap.size rfl (.tmp 187) (.tmp 188) 95 5 (.int .u8 0) 1 rfl Tryz.underlying95 info5 rfl (by decide) (by omega) u10 x10_6 32 [.int .u8 32] (fun _=>True) (fun _=>False) rfl rfl ?aP (fun _ hk=>hk.elim) ?aF ?aO ?aB ?aS ?aL ?_; (case aP=>exact rfl); (case aB=>exact (by repeat (first|(with_reducible first|exact HB.out|apply below_alloc|apply pw_below_drewN|apply below_drew1)|exact HB.out))); (case aF=>exact (fun _ _=>trivial)); (case aO=>exact (by (with_reducible repeat (first|apply Kd.R_alloc|apply Kd.R_drewN|apply Kd.R_drew)); exact HO_10.out)); (case aS=>exact (below_size (by repeat (first|(with_reducible first|exact HB.out|apply below_alloc|apply pw_below_drewN|apply below_drew1)|exact HB.out)))); (case aL=>have:=LMc61.out; omega); intro v508 w63 ho hb hg hat; rw [←Ny507.out] at ho; have n0_:=Aside0.mk (Kd.R_over' (by (with_reducible repeat (first|apply Kd.R_alloc|apply Kd.R_drewN|apply Kd.R_drew)); exact HO_4.out) (Kd.R_typed (by (with_reducible repeat (first|apply Kd.R_alloc|apply Kd.R_drewN|apply Kd.R_drew)); exact HO_10.out)) (by decide) hg); have n1_:=Aside0.mk (hb); have n2_:=Aside0.mk (ho); clear HO_4; clear HB; clear HO_10; have HO_4:=n0_; have HB:=n1_; have HO509:=n2_; clear n0_ n1_ n2_; clear ho hb hg hat))
                                 repeat (go_quiet (first|((with_reducible refine gate_builtin (b:=.append) (xs:=#[.tmp 187,.tmp 188]) rfl ?_); (try (refine gate_guard (by rfl) ?_; dsimp only)); at_builtin; refine Kd.R_append (Kd.int .u8) (w0:=w) w.heap.size rfl (.tmp 187) (.tmp 188) 95 5 (.int .u8 0) 1 rfl Tryz.underlying95 info5 rfl (by decide) (by omega) u10 x10_6 32 [.int .u8 32] (fun _=>True) (fun _=>False) rfl rfl ?aP (fun _ hk=>hk.elim) ?aF ?aO ?aB ?aS ?aL ?_; (case aP=>exact rfl); (case aB=>exact (by repeat (first|(with_reducible first|exact HB.out|apply below_alloc|apply pw_below_drewN|apply below_drew1)|exact HB.out))); (case aF=>exact (fun _ _=>trivial)); (case aO=>exact (by (with_reducible repeat (first|apply Kd.R_alloc|apply Kd.R_drewN|apply Kd.R_drew)); exact HO_10.out)); (case aS=>exact (below_size (by repeat (first|(with_reducible first|exact HB.out|apply below_alloc|apply pw_below_drewN|apply below_drew1)|exact HB.out)))); (case aL=>have:=LMc61.out; omega); intro v508 w63 ho hb hg hat; rw [←Ny507.out] at ho; have n0_:=Aside0.mk (Kd.R_over' (by (with_reducible repeat (first|apply Kd.R_alloc|apply Kd.R_drewN|apply Kd.R_drew)); exact HO_4.out) (Kd.R_typed (by (with_reducible repeat (first|apply Kd.R_alloc|apply Kd.R_drewN|apply Kd.R_drew)); exact HO_10.out)) (by decide) hg); have n1_:=Aside0.mk (hb); have n2_:=Aside0.mk (ho); clear HO_4; clear HB; clear HO_10; have HO_4:=n0_; have HB:=n1_; have HO509:=n2_; clear n0_ n1_ n2_; clear ho hb hg hat)); try go_wp2_with (first|((with_reducible refine gate_builtin (b:=.append) (xs:=#[.tmp 187,.tmp 188]) rfl ?_); (try (refine gate_guard (by rfl) ?_; dsimp only)); at_builtin; refine Kd.R_append (Kd.int .u8) (w0:=w) w.heap.size rfl (.tmp 187) (.tmp 188) 95 5 (.int .u8 0) 1 rfl Tryz.underlying95 info5 rfl (by decide) (by omega) u10 x10_6 32 [.int .u8 32] (fun _=>True) (fun _=>False) rfl rfl ?aP (fun _ hk=>hk.elim) ?aF ?aO ?aB ?aS ?aL ?_; (case aP=>exact rfl); (case aB=>exact (by repeat (first|(with_reducible first|exact HB.out|apply below_alloc|apply pw_below_drewN|apply below_drew1)|exact HB.out))); (case aF=>exact (fun _ _=>trivial)); (case aO=>exact (by (with_reducible repeat (first|apply Kd.R_alloc|apply Kd.R_drewN|apply Kd.R_drew)); exact HO_10.out)); (case aS=>exact (below_size (by repeat (first|(with_reducible first|exact HB.out|apply below_alloc|apply pw_below_drewN|apply below_drew1)|exact HB.out)))); (case aL=>have:=LMc61.out; omega); intro v508 w63 ho hb hg hat; rw [←Ny507.out] at ho; have n0_:=Aside0.mk (Kd.R_over' (by (with_reducible repeat (first|apply Kd.R_alloc|apply Kd.R_drewN|apply Kd.R_drew)); exact HO_4.out) (Kd.R_typed (by (with_reducible repeat (first|apply Kd.R_alloc|apply Kd.R_drewN|apply Kd.R_drew)); exact HO_10.out)) (by decide) hg); have n1_:=Aside0.mk (hb); have n2_:=Aside0.mk (ho); clear HO_4; clear HB; clear HO_10; have HO_4:=n0_; have HB:=n1_; have HO509:=n2_; clear n0_ n1_ n2_; clear ho hb hg hat)))
                                 go_roundg k6
                                 case measure=>have:=HK1.out; have:=HK2.out; have:=HK3.out; have:=HK4.out; have:=HK5.out; have:=HK6.out; omega
                                 case rel=>exact ⟨(y507),(wrap64 (x14_6+1)),(by first|rfl|(simp; done)|(simp [*]; done)),H',⟨by have:=HK1.out; have:=HK2.out; have:=HK3.out; have:=HK4.out; have:=HK5.out; have:=HK6.out; omega⟩,⟨by (with_reducible repeat (first|apply Kd.R_alloc|apply Kd.R_drewN|apply Kd.R_drew)); exact HO_4.out⟩,⟨by (with_reducible repeat (first|apply Kd.R_alloc|apply Kd.R_drewN|apply Kd.R_drew)); exact HO509.out⟩,⟨by repeat (first|(with_reducible first|exact HB.out|apply below_alloc|apply pw_below_drewN|apply below_drew1)|exact HB.out)⟩⟩
                                ·rw [if_neg c61] at H
                                 exact absurd H (by simp)
                               ·rw [if_neg c60] at H
                                have c60b0:decide (x12_4<(wrap64 (((rd_L4 l0 x11_3).length:Int)-1)))=false:=decide_eq_false c60
                                clear c60
                                have H':=Aside0.mk H
                                clear H
                                obtain ⟨Ao64,co64,eo64⟩:=Kd.R_slice HO_4.out
                                subst eo64
                                have p505:0≤(x12_4:Int):=of_decide_eq_true (by first|(with_reducible assumption)|assumption)
                                have q505:x12_4<(x4_1.length:Int):=of_decide_eq_true (by first|(with_reducible assumption)|assumption)
                                obtain ⟨ad505,e505,hx505_0⟩:=Kd.at_int (Kd.R_reads' HO_4.out).2.2 x12_4 p505 q505
                                cases e505
                                replace p505:=eq_true p505
                                replace q505:=eq_true q505
                                have p506:0≤(x11_3:Int):=of_decide_eq_true (by first|(with_reducible assumption)|assumption)
                                have q506:x11_3<(l0.length:Int):=of_decide_eq_true (by first|(with_reducible assumption)|assumption)
                                obtain ⟨ad506,A506_0,c506_0,e506,hx506_0,hl506_0,hi506_0⟩:=at_L4 HR0.out x11_3 p506 q506
                                obtain rfl:ad490=ad506:=(by injection e506)
                                replace hx506_0:=(HB.out.cell (World.block_lt_of_cell? w _ hx506_0)).trans hx506_0
                                have HR506_0:=Aside0.mk hi506_0
                                have HC506_0:=Aside0.mk hl506_0
                                clear hi506_0 hl506_0
                                replace p506:=eq_true p506
                                replace q506:=eq_true q506
                                go_wp2
                                repeat (go_quiet (fail); try go_wp2)
                                go_roundg k6
                                case measure=>have:=HK1.out; have:=HK2.out; have:=HK3.out; have:=HK4.out; have:=HK5.out; have:=HK6.out; omega
                                case rel=>exact ⟨(x10_6),(wrap64 (x12_4+1)),(by first|rfl|(simp; done)|(simp [*]; done)),H',⟨by have:=HK1.out; have:=HK2.out; have:=HK3.out; have:=HK4.out; have:=HK5.out; have:=HK6.out; omega⟩,⟨by (with_reducible repeat (first|apply Kd.R_alloc|apply Kd.R_drewN|apply Kd.R_drew)); exact HO_4.out⟩,⟨by (with_reducible repeat (first|apply Kd.R_alloc|apply Kd.R_drewN|apply Kd.R_drew)); exact HO_10.out⟩,⟨by repeat (first|(with_reducible first|exact HB.out|apply below_alloc|apply pw_below_drewN|apply below_drew1)|exact HB.out)⟩⟩
                              ·rw [if_neg c59] at H
                               exact absurd H (by simp)
                             ·rw [if_neg c58] at H
                              exact absurd H (by simp)
                            ·rw [if_neg c57] at H
                             have c57b0:decide (x14_6<(wrap64 ((rd x4_1 x12_4)+2)))=false:=decide_eq_false c57
                             clear c57
                             have H':=Aside0.mk H
                             clear H
                             obtain ⟨Ao65,co65,eo65⟩:=Kd.R_slice HO_4.out
                             subst eo65
                             have p505:0≤(x12_4:Int):=of_decide_eq_true (by first|(with_reducible assumption)|assumption)
                             have q505:x12_4<(x4_1.length:Int):=of_decide_eq_true (by first|(with_reducible assumption)|assumption)
                             obtain ⟨ad505,e505,hx505_0⟩:=Kd.at_int (Kd.R_reads' HO_4.out).2.2 x12_4 p505 q505
                             cases e505
                             replace p505:=eq_true p505
                             replace q505:=eq_true q505
                             go_wp2
                             repeat (go_quiet (fail); try go_wp2)
                             go_roundg k6
                             case measure=>have:=HK1.out; have:=HK2.out; have:=HK3.out; have:=HK4.out; have:=HK5.out; have:=HK6.out; omega
                             case rel=>exact ⟨(x10_6),(wrap64 (x12_4+1)),(by first|rfl|(simp; done)|(simp [*]; done)),H',⟨by have:=HK1.out; have:=HK2.out; have:=HK3.out; have:=HK4.out; have:=HK5.out; have:=HK6.out; omega⟩,⟨by (with_reducible repeat (first|apply Kd.R_alloc|apply Kd.R_drewN|apply Kd.R_drew)); exact HO_4.out⟩,⟨by (with_reducible repeat (first|apply Kd.R_alloc|apply Kd.R_drewN|apply Kd.R_drew)); exact HO_10.out⟩,⟨by repeat (first|(with_reducible first|exact HB.out|apply below_alloc|apply pw_below_drewN|apply below_drew1)|exact HB.out)⟩⟩
                           ·rw [if_neg c56] at H
                            exact absurd H (by simp)
                          ·rw [if_neg c55] at H
                           exact absurd H (by simp)
                       ·rw [if_neg c53] at H
                        exact absurd H (by simp)
                     ·rw [if_neg c48] at H
                      exact absurd H (by simp)
                    ·rw [if_neg c47] at H
                     exact absurd H (by simp)
                   ·rw [if_neg c46] at H
                    exact absurd H (by simp)
                  ·rw [if_neg c45] at H
                   exact absurd H (by simp)
               ·rw [if_neg c44] at H
                have c44b0:decide (x12_4<((rd_L4 l0 x11_3).length:Int))=false:=decide_eq_false c44
                clear c44
                by_cases c66:x10_4.length<140737488355328
                ·rw [if_pos c66] at H
                 have LMc66:=Aside0.mk c66
                 clear c66
                 obtain ⟨y491,hy491⟩:∃ y_:List Int,y_=(x10_4 ++ [10]):=⟨_,rfl⟩
                 replace H:(cubitref25_Table.l4 k4 l0 x4_1 y491 (wrap64 (x11_3+1)))=some (r1,r2):=by first|(rw [hy491]; with_reducible exact H)|(have H2_:=(Option.bind_some _ _).symm.trans H; rw [hy491]; with_reducible exact H2_)|(have H2_:=(Option.bind_some _ _).symm.trans H; with_reducible exact H2_)|with_reducible exact H|(rw [hy491]; exact H)|exact H
                 have Ny491:=Aside0.mk hy491
                 clear hy491
                 have H':=Aside0.mk H
                 clear H
                 have p490:0≤(x11_3:Int):=of_decide_eq_true (by first|(with_reducible assumption)|assumption)
                 have q490:x11_3<(l0.length:Int):=of_decide_eq_true (by first|(with_reducible assumption)|assumption)
                 obtain ⟨ad490,A490_0,c490_0,e490,hx490_0,hl490_0,hi490_0⟩:=at_L4 HR0.out x11_3 p490 q490
                 cases e490
                 replace hx490_0:=(HB.out.cell (World.block_lt_of_cell? w _ hx490_0)).trans hx490_0
                 have HR490_0:=Aside0.mk hi490_0
                 have HC490_0:=Aside0.mk hl490_0
                 clear hi490_0 hl490_0
                 replace p490:=eq_true p490
                 replace q490:=eq_true q490
                 go_wp2_with (first|((with_reducible refine gate_builtin (b:=.append) (xs:=#[.tmp 190,.tmp 191]) rfl ?_); (try (refine gate_guard (by rfl) ?_; dsimp only)); at_builtin; refine Kd.R_append (Kd.int .u8) (w0:=w) w.heap.size rfl (.tmp 190) (.tmp 191) 95 5 (.int .u8 0) 1 rfl Tryz.underlying95 info5 rfl (by decide) (by omega) u10 x10_4 10 [.int .u8 10] (fun _=>True) (fun _=>False) rfl rfl ?aP (fun _ hk=>hk.elim) ?aF ?aO ?aB ?aS ?aL ?_; (case aP=>exact rfl); (case aB=>exact (by repeat (first|(with_reducible first|exact HB.out|apply below_alloc|apply pw_below_drewN|apply below_drew1)|exact HB.out))); (case aF=>exact (fun _ _=>trivial)); (case aO=>exact (by (with_reducible repeat (first|apply Kd.R_alloc|apply Kd.R_drewN|apply Kd.R_drew)); exact HO_10.out)); (case aS=>exact (below_size (by repeat (first|(with_reducible first|exact HB.out|apply below_alloc|apply pw_below_drewN|apply below_drew1)|exact HB.out)))); (case aL=>have:=LMc66.out; omega); intro v492 w67 ho hb hg hat; rw [←Ny491.out] at ho; have n0_:=Aside0.mk (Kd.R_over' (by (with_reducible repeat (first|apply Kd.R_alloc|apply Kd.R_drewN|apply Kd.R_drew)); exact HO_4.out) (Kd.R_typed (by (with_reducible repeat (first|apply Kd.R_alloc|apply Kd.R_drewN|apply Kd.R_drew)); exact HO_10.out)) (by decide) hg); have n1_:=Aside0.mk (hb); have n2_:=Aside0.mk (ho); clear HO_4; clear HB; clear HO_10; have HO_4:=n0_; have HB:=n1_; have HO493:=n2_; clear n0_ n1_ n2_; clear ho hb hg hat))
                 repeat (go_quiet (first|((with_reducible refine gate_builtin (b:=.append) (xs:=#[.tmp 190,.tmp 191]) rfl ?_); (try (refine gate_guard (by rfl) ?_; dsimp only)); at_builtin; refine Kd.R_append (Kd.int .u8) (w0:=w) w.heap.size rfl (.tmp 190) (.tmp 191) 95 5 (.int .u8 0) 1 rfl Tryz.underlying95 info5 rfl (by decide) (by omega) u10 x10_4 10 [.int .u8 10] (fun _=>True) (fun _=>False) rfl rfl ?aP (fun _ hk=>hk.elim) ?aF ?aO ?aB ?aS ?aL ?_; (case aP=>exact rfl); (case aB=>exact (by repeat (first|(with_reducible first|exact HB.out|apply below_alloc|apply pw_below_drewN|apply below_drew1)|exact HB.out))); (case aF=>exact (fun _ _=>trivial)); (case aO=>exact (by (with_reducible repeat (first|apply Kd.R_alloc|apply Kd.R_drewN|apply Kd.R_drew)); exact HO_10.out)); (case aS=>exact (below_size (by repeat (first|(with_reducible first|exact HB.out|apply below_alloc|apply pw_below_drewN|apply below_drew1)|exact HB.out)))); (case aL=>have:=LMc66.out; omega); intro v492 w67 ho hb hg hat; rw [←Ny491.out] at ho; have n0_:=Aside0.mk (Kd.R_over' (by (with_reducible repeat (first|apply Kd.R_alloc|apply Kd.R_drewN|apply Kd.R_drew)); exact HO_4.out) (Kd.R_typed (by (with_reducible repeat (first|apply Kd.R_alloc|apply Kd.R_drewN|apply Kd.R_drew)); exact HO_10.out)) (by decide) hg); have n1_:=Aside0.mk (hb); have n2_:=Aside0.mk (ho); clear HO_4; clear HB; clear HO_10; have HO_4:=n0_; have HB:=n1_; have HO493:=n2_; clear n0_ n1_ n2_; clear ho hb hg hat)); try go_wp2_with (first|((with_reducible refine gate_builtin (b:=.append) (xs:=#[.tmp 190,.tmp 191]) rfl ?_); (try (refine gate_guard (by rfl) ?_; dsimp only)); at_builtin; refine Kd.R_append (Kd.int .u8) (w0:=w) w.heap.size rfl (.tmp 190) (.tmp 191) 95 5 (.int .u8 0) 1 rfl Tryz.underlying95 info5 rfl (by decide) (by omega) u10 x10_4 10 [.int .u8 10] (fun _=>True) (fun _=>False) rfl rfl ?aP (fun _ hk=>hk.elim) ?aF ?aO ?aB ?aS ?aL ?_; (case aP=>exact rfl); (case aB=>exact (by repeat (first|(with_reducible first|exact HB.out|apply below_alloc|apply pw_below_drewN|apply below_drew1)|exact HB.out))); (case aF=>exact (fun _ _=>trivial)); (case aO=>exact (by (with_reducible repeat (first|apply Kd.R_alloc|apply Kd.R_drewN|apply Kd.R_drew)); exact HO_10.out)); (case aS=>exact (below_size (by repeat (first|(with_reducible first|exact HB.out|apply below_alloc|apply pw_below_drewN|apply below_drew1)|exact HB.out)))); (case aL=>have:=LMc66.out; omega); intro v492 w67 ho hb hg hat; rw [←Ny491.out] at ho; have n0_:=Aside0.mk (Kd.R_over' (by (with_reducible repeat (first|apply Kd.R_alloc|apply Kd.R_drewN|apply Kd.R_drew)); exact HO_4.out) (Kd.R_typed (by (with_reducible repeat (first|apply Kd.R_alloc|apply Kd.R_drewN|apply Kd.R_drew)); exact HO_10.out)) (by decide) hg); have n1_:=Aside0.mk (hb); have n2_:=Aside0.mk (ho); clear HO_4; clear HB; clear HO_10; have HO_4:=n0_; have HB:=n1_; have HO493:=n2_; clear n0_ n1_ n2_; clear ho hb hg hat)))
                 go_roundg k4
                 case measure=>have:=HK1.out; have:=HK2.out; have:=HK3.out; have:=HK4.out; omega
                 case rel=>exact ⟨(y491),(wrap64 (x11_3+1)),(by first|rfl|(simp; done)|(simp [*]; done)),H',⟨by have:=HK1.out; have:=HK2.out; have:=HK3.out; have:=HK4.out; omega⟩,⟨by (with_reducible repeat (first|apply Kd.R_alloc|apply Kd.R_drewN|apply Kd.R_drew)); exact HO_4.out⟩,⟨by (with_reducible repeat (first|apply Kd.R_alloc|apply Kd.R_drewN|apply Kd.R_drew)); exact HO493.out⟩,⟨by repeat (first|(with_reducible first|exact HB.out|apply below_alloc|apply pw_below_drewN|apply below_drew1)|exact HB.out)⟩⟩
                ·rw [if_neg c66] at H
                 exact absurd H (by simp)
              ·rw [if_neg c43] at H
               exact absurd H (by simp)
             ·rw [if_neg c42] at H
              exact absurd H (by simp)
          ·rw [if_neg c41] at H
           have c41b0:decide (x11_3<(l0.length:Int))=false:=decide_eq_false c41
           clear c41
           simp only [Option.some.injEq,Prod.mk.injEq] at H
           obtain ⟨rfl,rfl⟩:=H
           have hcv68:=own_string (P:=Tryz.prog) Tryz.underlying95 Tryz.underlying5 Tryz.underlying9 (Kd.own_of_R HO_10.out)
           go_wp2
           repeat (go_quiet (fail); try go_wp2)
           go_ret2
           exact ⟨by first|rfl|(simp [errW_none,errW_some]<;>rfl)|(simp [*,errW_none,errW_some]<;>rfl),by repeat (first|(with_reducible first|exact HB.out|apply below_alloc|apply pw_below_drewN|apply below_drew1)|exact HB.out)⟩
end Go.Proofs.YtglaeambknhjlaaGreatDoor.Q
end
