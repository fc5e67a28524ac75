/- Texts under the proof, joined by a program (prune.py): P95, SPlus, P101. -/
import Derived.Test.YtglaeambknhjlaaGreatDoorCShowReads02
import Derived.Test.YtglaeambknhjlaaGreatDoorCShowReads07
import Derived.Test.YtglaeambknhjlaaGreatDoorCShowReads08
import Derived.Test.YtglaeambknhjlaaGreatDoorCShowReads09
set_option linter.unusedVariables false
set_option linter.unusedSimpArgs false
set_option exponentiation.threshold 20001
set_option maxHeartbeats 8000000
set_option maxRecDepth 100000
section
namespace Go.Proofs.ZP
open Go.RowKit Go.Proofs.ZW.Wa Go.Proofs.ZW.Wb Go.Proofs.ZW.Wc
attribute [local go_sem] zaC zaB zaM zaL zaz zay zaF zaE
mutual
def c1_Plus.l0:Nat→List Int→List Int→List Int→Int→Int→Option (ByteArray)
 | 0,_,_,_,_,_=>none
 | k+1,x5,x6,x7,x8,x9=>if x9<(x5.length:Int) then (c1_Plus.j1 k x5 x6 x7 x8 x9 true) else (if x9<(x6.length:Int) then (c1_Plus.j1 k x5 x6 x7 x8 x9 true) else (c1_Plus.j1 k x5 x6 x7 x8 x9 (decide (x8>0))))
def c1_Plus.j1:Nat→List Int→List Int→List Int→Int→Int→Bool→Option (ByteArray)
 | 0,_,_,_,_,_,_=>none
 | k+1,x5,x6,x7,x8,x9,x27=>if x27=true then (if x9<(x5.length:Int) then (if 0≤x9 then (if x9<(x6.length:Int) then (if x7.length<17592186044416 then (c1_Plus.l0 k x5 x6 (x7 ++ [Int.tmod (wrap64 ((wrap64 (x8+(rd x5 x9)))+(rd x6 x9))) 10000]) (wrap64 (Int.tdiv (wrap64 ((wrap64 (x8+(rd x5 x9)))+(rd x6 x9))) 10000)) (wrap64 (x9+1))) else (none)) else (if x7.length<17592186044416 then (c1_Plus.l0 k x5 x6 (x7 ++ [Int.tmod (wrap64 (x8+(rd x5 x9))) 10000]) (wrap64 (Int.tdiv (wrap64 (x8+(rd x5 x9))) 10000)) (wrap64 (x9+1))) else (none))) else (none)) else (if x9<(x6.length:Int) then (if 0≤x9 then (if x7.length<17592186044416 then (c1_Plus.l0 k x5 x6 (x7 ++ [Int.tmod (wrap64 (x8+(rd x6 x9))) 10000]) (wrap64 (Int.tdiv (wrap64 (x8+(rd x6 x9))) 10000)) (wrap64 (x9+1))) else (none)) else (none)) else (if x7.length<17592186044416 then (c1_Plus.l0 k x5 x6 (x7 ++ [Int.tmod x8 10000]) (wrap64 (Int.tdiv x8 10000)) (wrap64 (x9+1))) else (none)))) else ((c1_trim.f k x7).bind fun t238=>((c1_text.f t238).bind fun t241=>(some t241)))
end
def c1_Plus.f (k:Nat) (a0:ByteArray) (a1:ByteArray):Option (ByteArray):=(c1_limbs.f k a0).bind fun t232=>((c1_limbs.f k a1).bind fun t235=>(c1_Plus.l0 k t232 t235 ([]:List Int) 0 0))
theorem c1_Plus.calls (k:Nat) (a0:ByteArray) (a1:ByteArray) (r:ByteArray) (w:World) (h:c1_Plus.f k a0 a1=some r) :
  Calls Tryz.prog 129 #[.string a0,.string a1] w fun e w'=>e = .returned (.string r)∧Below w.heap.size w w':=by
 have HB:=Aside0.mk (Below.refl w.heap.size w)
 have H:((c1_limbs.f k a0).bind fun t232=>((c1_limbs.f k a1).bind fun t235=>(c1_Plus.l0 k t232 t235 ([]:List Int) 0 0)))=some r:=h
 clear h
 replace H:=Option.bind_eq_some_iff.mp H
 obtain ⟨t232,A30,H⟩:=H
 replace H:((c1_limbs.f k a1).bind fun t235=>(c1_Plus.l0 k t232 t235 ([]:List Int) 0 0))=some r:=H
 have A3:=Aside0.mk A30
 clear A30
 replace H:=Option.bind_eq_some_iff.mp H
 obtain ⟨t235,A40,H⟩:=H
 replace H:(c1_Plus.l0 k t232 t235 ([]:List Int) 0 0)=some r:=H
 have A4:=Aside0.mk A40
 clear A40
 have H':=Aside0.mk H
 clear H
 go_enter Tryz.func129,Tryz.ntmps129
 go_wp2_with (first|((with_reducible refine zav (f:=203) rfl ?_); refine za5 (some 11) rfl rfl Tryz.func203 (by kernel_rfl) rfl #[.string a0] rfl (by (try simp only [List.map_toArray,List.map_cons,List.map_nil]); first|done|rfl|(simp only [List.length_drop,List.length_take]; rfl)) ?_; (with_reducible refine (c1_limbs.calls k a0 t232 _ A3.out).mono ?_); rintro e w5 ⟨v233,rfl,ho0,hb⟩; refine ⟨_,rfl,?_⟩; have n0_:=Aside0.mk (Kd.V_lower (Kd.V_mono (ok':=fun k_=>True) ho0 (fun k_ hk_=>trivial)) (zal (by repeat (first|(with_reducible first|exact HB.out|apply zaa|apply zab|apply zac)|exact HB.out)))); have n1_:=Aside0.mk (zam (by repeat (first|(with_reducible first|exact HB.out|apply zaa|apply zab|apply zac)|exact HB.out)) hb); clear HB; have HO234:=n0_; have HB:=n1_; clear n0_ n1_; (try clear hb); (try clear hb2); (try clear hk); (try clear hi); (try clear ho0))|((with_reducible refine zav (f:=203) rfl ?_); refine za5 (some 13) rfl rfl Tryz.func203 (by kernel_rfl) rfl #[.string a1] rfl (by (try simp only [List.map_toArray,List.map_cons,List.map_nil]); first|done|rfl|(simp only [List.length_drop,List.length_take]; rfl)) ?_; (with_reducible refine (c1_limbs.calls k a1 t235 _ A4.out).mono ?_); rintro e w6 ⟨v236,rfl,ho0,hb⟩; refine ⟨_,rfl,?_⟩; have n0_:=Aside0.mk (Kd.V_below (by (with_reducible repeat (first|apply Kd.V_alloc|apply Kd.V_drewN|apply Kd.V_drew)); exact HO234.out) hb); have n1_:=Aside0.mk (Kd.V_lower (Kd.V_mono (ok':=fun k_=>True) ho0 (fun k_ hk_=>trivial)) (zal (by repeat (first|(with_reducible first|exact HB.out|apply zaa|apply zab|apply zac)|exact HB.out)))); have n2_:=Aside0.mk (zam (by repeat (first|(with_reducible first|exact HB.out|apply zaa|apply zab|apply zac)|exact HB.out)) hb); clear HO234; clear HB; have HO234:=n0_; have HO237:=n1_; have HB:=n2_; clear n0_ n1_ n2_; (try clear hb); (try clear hb2); (try clear hk); (try clear hi); (try clear ho0)))
 go_loopg [7,8,9] k (fun kq v7 v8 v9 w'=>∃ (x7_1:List Int) (x8_1:Int) (x9_1:Int),v8 = .int .i64 x8_1∧v9 = .int .i64 x9_1∧Aside0 (c1_Plus.l0 kq t232 t235 x7_1 x8_1 x9_1=some r)∧Aside0 (kq≤k)∧Aside0 (Kd.V (Kd.int .i64) 3 w' w.heap.size (fun k_=>some k_≠(v7:Value).ownBlock) v233 t232)∧Aside0 (Kd.V (Kd.int .i64) 3 w' w.heap.size (fun k_=>some k_≠(v7:Value).ownBlock) v236 t235)∧Aside0 (Kd.R (Kd.int .i64) 3 w' w.heap.size (fun _=>True) v7 x7_1)∧Aside0 (Below w.heap.size w w'))
 case atStart=>exact ⟨(([]:List Int)),(0),(0),(by first|rfl|(simp; done)|(simp [*]; done)),(by first|rfl|(simp; done)|(simp [*]; done)),H',⟨Nat.le_refl _⟩,⟨by (with_reducible repeat (first|apply Kd.V_alloc|apply Kd.V_drewN|apply Kd.V_drew)); exact Kd.V_mono HO234.out (fun _ hk=>(by simp [Value.ownBlock]))⟩,⟨by (with_reducible repeat (first|apply Kd.V_alloc|apply Kd.V_drewN|apply Kd.V_drew)); exact Kd.V_mono HO237.out (fun _ hk=>(by simp [Value.ownBlock]))⟩,⟨by first|exact Kd.R_nil _ _ _ _ _|exact Kd.N_nil _ _ _ _ _|exact Kd.V_nil _ _ _ _ _|exact Kd.Q_nil _ _ _ _ _|exact Kd.S_nil _ _ _ _ _⟩,⟨by repeat (first|(with_reducible first|exact HB.out|apply zaa|apply zab|apply zac)|exact HB.out)⟩⟩
 case round =>
  clear H'
  try clear c1
  try clear c2
  try clear p2
  obtain ⟨x7_1,x8_1,x9_1,rfl,rfl,HA,HK1,HO_5,HO_6,HO_7,HB⟩:=hrel
  cases gk with
  | zero=>exact absurd HA.out (by simp [c1_Plus.l0])
  | succ k1 =>
   have H:=HA.out
   clear HA
   simp only [c1_Plus.l0] at H
   have HC7:=Aside0.mk H
   clear H
   go_upto_region 6 with (fail)
   go_cut [27] (fun v27 wc=>∃ (kq:Nat) (x27_6:Bool),v27 = .bool x27_6∧Aside0 (c1_Plus.j1 kq t232 t235 x7_1 x8_1 x9_1 x27_6=some r)∧Aside0 (kq≤k1)∧Aside0 (Kd.V (Kd.int .i64) 3 wc w.heap.size (fun k_=>some k_≠(u7:Value).ownBlock) v233 t232)∧Aside0 (Kd.V (Kd.int .i64) 3 wc w.heap.size (fun k_=>some k_≠(u7:Value).ownBlock) v236 t235)∧Aside0 (Kd.R (Kd.int .i64) 3 wc w.heap.size (fun _=>True) u7 x7_1)∧Aside0 (Below w.heap.size w wc))
   case first =>
    have H:=HC7.out
    clear HC7
    by_cases c8:x9_1<(t232.length:Int)
    ·rw [if_pos c8] at H
     have c8b0:decide (x9_1<(t232.length:Int))=true:=decide_eq_true c8
     clear c8
     (first|rw [c8b0]|(simp only [i64_w,i32_w]; rw [c8b0])|skip)
     have H':=Aside0.mk H
     clear H
     obtain ⟨Ao9,co9,eo9⟩:=Kd.V_slice HO_5.out
     subst eo9
     go_wp2
     go_meet
     case rel=>exact ⟨_,(true),(by first|rfl|(simp; done)|(simp [*]; done)),H',⟨by have:=HK1.out; first|omega|exact Nat.le_refl _⟩,⟨by (with_reducible repeat (first|apply Kd.V_alloc|apply Kd.V_drewN|apply Kd.V_drew)); exact HO_5.out⟩,⟨by (with_reducible repeat (first|apply Kd.V_alloc|apply Kd.V_drewN|apply Kd.V_drew)); exact HO_6.out⟩,⟨by (with_reducible repeat (first|apply Kd.R_alloc|apply Kd.R_drewN|apply Kd.R_drew)); exact HO_7.out⟩,⟨by repeat (first|(with_reducible first|exact HB.out|apply zaa|apply zab|apply zac)|exact HB.out)⟩⟩
    ·rw [if_neg c8] at H
     have c8b0:decide (x9_1<(t232.length:Int))=false:=decide_eq_false c8
     clear c8
     (first|rw [c8b0]|(simp only [i64_w,i32_w]; rw [c8b0])|skip)
     by_cases c10:x9_1<(t235.length:Int)
     ·rw [if_pos c10] at H
      have c10b0:decide (x9_1<(t235.length:Int))=true:=decide_eq_true c10
      clear c10
      have H':=Aside0.mk H
      clear H
      obtain ⟨Ao11,co11,eo11⟩:=Kd.V_slice HO_5.out
      subst eo11
      obtain ⟨Ao12,co12,eo12⟩:=Kd.V_slice HO_6.out
      subst eo12
      go_wp2
      go_meet
      case rel=>exact ⟨_,(true),(by first|rfl|(simp; done)|(simp [*]; done)),H',⟨by have:=HK1.out; first|omega|exact Nat.le_refl _⟩,⟨by (with_reducible repeat (first|apply Kd.V_alloc|apply Kd.V_drewN|apply Kd.V_drew)); exact HO_5.out⟩,⟨by (with_reducible repeat (first|apply Kd.V_alloc|apply Kd.V_drewN|apply Kd.V_drew)); exact HO_6.out⟩,⟨by (with_reducible repeat (first|apply Kd.R_alloc|apply Kd.R_drewN|apply Kd.R_drew)); exact HO_7.out⟩,⟨by repeat (first|(with_reducible first|exact HB.out|apply zaa|apply zab|apply zac)|exact HB.out)⟩⟩
     ·rw [if_neg c10] at H
      have c10b0:decide (x9_1<(t235.length:Int))=false:=decide_eq_false c10
      clear c10
      have H':=Aside0.mk H
      clear H
      obtain ⟨Ao13,co13,eo13⟩:=Kd.V_slice HO_5.out
      subst eo13
      obtain ⟨Ao14,co14,eo14⟩:=Kd.V_slice HO_6.out
      subst eo14
      go_wp2
      go_meet
      case rel=>exact ⟨_,(decide (x8_1>0)),(by first|rfl|(simp; done)|(simp [*]; done)),H',⟨by have:=HK1.out; first|omega|exact Nat.le_refl _⟩,⟨by (with_reducible repeat (first|apply Kd.V_alloc|apply Kd.V_drewN|apply Kd.V_drew)); exact HO_5.out⟩,⟨by (with_reducible repeat (first|apply Kd.V_alloc|apply Kd.V_drewN|apply Kd.V_drew)); exact HO_6.out⟩,⟨by (with_reducible repeat (first|apply Kd.R_alloc|apply Kd.R_drewN|apply Kd.R_drew)); exact HO_7.out⟩,⟨by repeat (first|(with_reducible first|exact HB.out|apply zaa|apply zab|apply zac)|exact HB.out)⟩⟩
   case rest =>
    clear HC7
    try clear c1
    try clear c2
    try clear p2
    try clear c8
    try clear c8b0
    try clear c10
    try clear c10b0
    try clear c12
    try clear p2
    obtain ⟨kq,x27_6,rfl,HA,HJ6,HO_5,HO_6,HO_7,HB⟩:=hcut
    cases kq with
    | zero=>exact absurd HA.out (by simp [c1_Plus.j1])
    | succ kj6 =>
     have H:=HA.out
     clear HA
     simp only [c1_Plus.j1] at H
     by_cases c15:x27_6=true
     ·subst c15
      have H1:(if x9_1<(t232.length:Int) then (if 0≤x9_1 then (if x9_1<(t235.length:Int) then (if x7_1.length<17592186044416 then (c1_Plus.l0 kj6 t232 t235 (x7_1 ++ [Int.tmod (wrap64 ((wrap64 (x8_1+(rd t232 x9_1)))+(rd t235 x9_1))) 10000]) (wrap64 (Int.tdiv (wrap64 ((wrap64 (x8_1+(rd t232 x9_1)))+(rd t235 x9_1))) 10000)) (wrap64 (x9_1+1))) else (none)) else (if x7_1.length<17592186044416 then (c1_Plus.l0 kj6 t232 t235 (x7_1 ++ [Int.tmod (wrap64 (x8_1+(rd t232 x9_1))) 10000]) (wrap64 (Int.tdiv (wrap64 (x8_1+(rd t232 x9_1))) 10000)) (wrap64 (x9_1+1))) else (none))) else (none)) else (if x9_1<(t235.length:Int) then (if 0≤x9_1 then (if x7_1.length<17592186044416 then (c1_Plus.l0 kj6 t232 t235 (x7_1 ++ [Int.tmod (wrap64 (x8_1+(rd t235 x9_1))) 10000]) (wrap64 (Int.tdiv (wrap64 (x8_1+(rd t235 x9_1))) 10000)) (wrap64 (x9_1+1))) else (none)) else (none)) else (if x7_1.length<17592186044416 then (c1_Plus.l0 kj6 t232 t235 (x7_1 ++ [Int.tmod x8_1 10000]) (wrap64 (Int.tdiv x8_1 10000)) (wrap64 (x9_1+1))) else (none))))=some r:=by rw [if_pos rfl] at H; exact H
      clear H
      have H:=H1
      clear H1
      by_cases c16:x9_1<(t232.length:Int)
      ·rw [if_pos c16] at H
       have c16b0:decide (x9_1<(t232.length:Int))=true:=decide_eq_true c16
       clear c16
       by_cases c17:0≤x9_1
       ·rw [if_pos c17] at H
        have c17b0:decide (0≤x9_1)=true:=decide_eq_true c17
        clear c17
        by_cases c18:x9_1<(t235.length:Int)
        ·rw [if_pos c18] at H
         have c18b0:decide (x9_1<(t235.length:Int))=true:=decide_eq_true c18
         clear c18
         by_cases c19:x7_1.length<17592186044416
         ·rw [if_pos c19] at H
          have LMc19:=Aside0.mk c19
          clear c19
          obtain ⟨y244,hy244⟩:∃ y_:List Int,y_=(x7_1 ++ [Int.tmod (wrap64 ((wrap64 (x8_1+(rd t232 x9_1)))+(rd t235 x9_1))) 10000]):=⟨_,rfl⟩
          replace H:(c1_Plus.l0 kj6 t232 t235 y244 (wrap64 (Int.tdiv (wrap64 ((wrap64 (x8_1+(rd t232 x9_1)))+(rd t235 x9_1))) 10000)) (wrap64 (x9_1+1)))=some r:=by first|(rw [hy244]; with_reducible exact H)|(have H2_:=(Option.bind_some _ _).symm.trans H; rw [hy244]; with_reducible exact H2_)|(have H2_:=(Option.bind_some _ _).symm.trans H; with_reducible exact H2_)|with_reducible exact H|(rw [hy244]; exact H)|exact H
          have Ny244:=Aside0.mk hy244
          clear hy244
          have H':=Aside0.mk H
          clear H
          obtain ⟨Ao20,co20,eo20⟩:=Kd.V_slice HO_5.out
          subst eo20
          have p242:0≤(x9_1:Int):=of_decide_eq_true (by first|(with_reducible assumption)|assumption)
          have q242:x9_1<(t232.length:Int):=of_decide_eq_true (by first|(with_reducible assumption)|assumption)
          obtain ⟨ad242,e242,hx242_0⟩:=Kd.at_int (Kd.V_reads' HO_5.out).2.2 x9_1 p242 q242
          cases e242
          replace p242:=eq_true p242
          replace q242:=eq_true q242
          obtain ⟨Ao21,co21,eo21⟩:=Kd.V_slice HO_6.out
          subst eo21
          have p243:0≤(x9_1:Int):=of_decide_eq_true (by first|(with_reducible assumption)|assumption)
          have q243:x9_1<(t235.length:Int):=of_decide_eq_true (by first|(with_reducible assumption)|assumption)
          obtain ⟨ad243,e243,hx243_0⟩:=Kd.at_int (Kd.V_reads' HO_6.out).2.2 x9_1 p243 q243
          cases e243
          replace p243:=eq_true p243
          replace q243:=eq_true q243
          go_wp2_with (first|((with_reducible refine zbX (b:=.append) (xs:=#[.tmp 50,.tmp 53]) rfl ?_); (try (refine zcV (by rfl) ?_; dsimp only)); at_builtin; refine Kd.R_append (Kd.int .i64) (w0:=w) w.heap.size rfl (.tmp 50) (.tmp 53) 92 3 (.int .i64 0) 8 rfl Tryz.underlying92 info3 rfl (by decide) (by omega) u7 x7_1 (Int.tmod (wrap64 ((wrap64 (x8_1+(rd t232 x9_1)))+(rd t235 x9_1))) 10000) [.int .i64 (Int.tmod (wrap64 ((wrap64 (x8_1+(rd t232 x9_1)))+(rd t235 x9_1))) 10000)] (fun _=>True) (fun _=>False) rfl rfl ?aP (fun _ hk=>hk.elim) ?aF ?aO ?aB ?aS ?aL ?_; (case aP=>exact rfl); (case aB=>exact (by repeat (first|(with_reducible first|exact HB.out|apply zaa|apply zab|apply zac)|exact HB.out))); (case aF=>exact (fun _ _=>trivial)); (case aO=>exact (by (with_reducible repeat (first|apply Kd.R_alloc|apply Kd.R_drewN|apply Kd.R_drew)); exact HO_7.out)); (case aS=>exact (zal (by repeat (first|(with_reducible first|exact HB.out|apply zaa|apply zab|apply zac)|exact HB.out)))); (case aL=>have:=LMc19.out; omega); intro v245 w22 ho hb hg hat; rw [←Ny244.out] at ho; have n0_:=Aside0.mk (Kd.V_afterv (ok:=(fun _=>True)) (by (with_reducible repeat (first|apply Kd.V_alloc|apply Kd.V_drewN|apply Kd.V_drew)); exact Kd.V_mono HO_5.out (fun _ hk=>⟨trivial,hk⟩)) hg hat); have n1_:=Aside0.mk (Kd.V_afterv (ok:=(fun _=>True)) (by (with_reducible repeat (first|apply Kd.V_alloc|apply Kd.V_drewN|apply Kd.V_drew)); exact Kd.V_mono HO_6.out (fun _ hk=>⟨trivial,hk⟩)) hg hat); have n2_:=Aside0.mk (hb); have n3_:=Aside0.mk (ho); clear HO_5; clear HO_6; clear HB; clear HO_7; have HO_5:=n0_; have HO_6:=n1_; have HB:=n2_; have HO246:=n3_; clear n0_ n1_ n2_ n3_; clear ho hb hg hat))
          go_roundg kj6
          case measure=>have:=HK1.out; have:=HJ6.out; omega
          case rel=>exact ⟨(y244),(wrap64 (Int.tdiv (wrap64 ((wrap64 (x8_1+(rd t232 x9_1)))+(rd t235 x9_1))) 10000)),(wrap64 (x9_1+1)),(by first|rfl|(simp; done)|(simp [*]; done)),(by first|rfl|(simp; done)|(simp [*]; done)),H',⟨by have:=HK1.out; have:=HJ6.out; omega⟩,⟨by (with_reducible repeat (first|apply Kd.V_alloc|apply Kd.V_drewN|apply Kd.V_drew)); exact Kd.V_mono HO_5.out (fun _ hk=>hk.2)⟩,⟨by (with_reducible repeat (first|apply Kd.V_alloc|apply Kd.V_drewN|apply Kd.V_drew)); exact Kd.V_mono HO_6.out (fun _ hk=>hk.2)⟩,⟨by (with_reducible repeat (first|apply Kd.R_alloc|apply Kd.R_drewN|apply Kd.R_drew)); exact HO246.out⟩,⟨by repeat (first|(with_reducible first|exact HB.out|apply zaa|apply zab|apply zac)|exact HB.out)⟩⟩
         ·rw [if_neg c19] at H
          exact absurd H (by simp)
        ·rw [if_neg c18] at H
         have c18b0:decide (x9_1<(t235.length:Int))=false:=decide_eq_false c18
         clear c18
         by_cases c23:x7_1.length<17592186044416
         ·rw [if_pos c23] at H
          have LMc23:=Aside0.mk c23
          clear c23
          obtain ⟨y247,hy247⟩:∃ y_:List Int,y_=(x7_1 ++ [Int.tmod (wrap64 (x8_1+(rd t232 x9_1))) 10000]):=⟨_,rfl⟩
          replace H:(c1_Plus.l0 kj6 t232 t235 y247 (wrap64 (Int.tdiv (wrap64 (x8_1+(rd t232 x9_1))) 10000)) (wrap64 (x9_1+1)))=some r:=by first|(rw [hy247]; with_reducible exact H)|(have H2_:=(Option.bind_some _ _).symm.trans H; rw [hy247]; with_reducible exact H2_)|(have H2_:=(Option.bind_some _ _).symm.trans H; with_reducible exact H2_)|with_reducible exact H|(rw [hy247]; exact H)|exact H
          have Ny247:=Aside0.mk hy247
          clear hy247
          have H':=Aside0.mk H
          clear H
          obtain ⟨Ao24,co24,eo24⟩:=Kd.V_slice HO_5.out
          subst eo24
          have p242:0≤(x9_1:Int):=of_decide_eq_true (by first|(with_reducible assumption)|assumption)
          have q242:x9_1<(t232.length:Int):=of_decide_eq_true (by first|(with_reducible assumption)|assumption)
          obtain ⟨ad242,e242,hx242_0⟩:=Kd.at_int (Kd.V_reads' HO_5.out).2.2 x9_1 p242 q242
          cases e242
          replace p242:=eq_true p242
          replace q242:=eq_true q242
          obtain ⟨Ao25,co25,eo25⟩:=Kd.V_slice HO_6.out
          subst eo25
          go_wp2_with (first|((with_reducible refine zbX (b:=.append) (xs:=#[.tmp 50,.tmp 53]) rfl ?_); (try (refine zcV (by rfl) ?_; dsimp only)); at_builtin; refine Kd.R_append (Kd.int .i64) (w0:=w) w.heap.size rfl (.tmp 50) (.tmp 53) 92 3 (.int .i64 0) 8 rfl Tryz.underlying92 info3 rfl (by decide) (by omega) u7 x7_1 (Int.tmod (wrap64 (x8_1+(rd t232 x9_1))) 10000) [.int .i64 (Int.tmod (wrap64 (x8_1+(rd t232 x9_1))) 10000)] (fun _=>True) (fun _=>False) rfl rfl ?aP (fun _ hk=>hk.elim) ?aF ?aO ?aB ?aS ?aL ?_; (case aP=>exact rfl); (case aB=>exact (by repeat (first|(with_reducible first|exact HB.out|apply zaa|apply zab|apply zac)|exact HB.out))); (case aF=>exact (fun _ _=>trivial)); (case aO=>exact (by (with_reducible repeat (first|apply Kd.R_alloc|apply Kd.R_drewN|apply Kd.R_drew)); exact HO_7.out)); (case aS=>exact (zal (by repeat (first|(with_reducible first|exact HB.out|apply zaa|apply zab|apply zac)|exact HB.out)))); (case aL=>have:=LMc23.out; omega); intro v248 w26 ho hb hg hat; rw [←Ny247.out] at ho; have n0_:=Aside0.mk (Kd.V_afterv (ok:=(fun _=>True)) (by (with_reducible repeat (first|apply Kd.V_alloc|apply Kd.V_drewN|apply Kd.V_drew)); exact Kd.V_mono HO_5.out (fun _ hk=>⟨trivial,hk⟩)) hg hat); have n1_:=Aside0.mk (Kd.V_afterv (ok:=(fun _=>True)) (by (with_reducible repeat (first|apply Kd.V_alloc|apply Kd.V_drewN|apply Kd.V_drew)); exact Kd.V_mono HO_6.out (fun _ hk=>⟨trivial,hk⟩)) hg hat); have n2_:=Aside0.mk (hb); have n3_:=Aside0.mk (ho); clear HO_5; clear HO_6; clear HB; clear HO_7; have HO_5:=n0_; have HO_6:=n1_; have HB:=n2_; have HO249:=n3_; clear n0_ n1_ n2_ n3_; clear ho hb hg hat))
          go_roundg kj6
          case measure=>have:=HK1.out; have:=HJ6.out; omega
          case rel=>exact ⟨(y247),(wrap64 (Int.tdiv (wrap64 (x8_1+(rd t232 x9_1))) 10000)),(wrap64 (x9_1+1)),(by first|rfl|(simp; done)|(simp [*]; done)),(by first|rfl|(simp; done)|(simp [*]; done)),H',⟨by have:=HK1.out; have:=HJ6.out; omega⟩,⟨by (with_reducible repeat (first|apply Kd.V_alloc|apply Kd.V_drewN|apply Kd.V_drew)); exact Kd.V_mono HO_5.out (fun _ hk=>hk.2)⟩,⟨by (with_reducible repeat (first|apply Kd.V_alloc|apply Kd.V_drewN|apply Kd.V_drew)); exact Kd.V_mono HO_6.out (fun _ hk=>hk.2)⟩,⟨by (with_reducible repeat (first|apply Kd.R_alloc|apply Kd.R_drewN|apply Kd.R_drew)); exact HO249.out⟩,⟨by repeat (first|(with_reducible first|exact HB.out|apply zaa|apply zab|apply zac)|exact HB.out)⟩⟩
         ·rw [if_neg c23] at H
          exact absurd H (by simp)
       ·rw [if_neg c17] at H
        exact absurd H (by simp)
      ·rw [if_neg c16] at H
       have c16b0:decide (x9_1<(t232.length:Int))=false:=decide_eq_false c16
       clear c16
       by_cases c27:x9_1<(t235.length:Int)
       ·rw [if_pos c27] at H
        have c27b0:decide (x9_1<(t235.length:Int))=true:=decide_eq_true c27
        clear c27
        by_cases c28:0≤x9_1
        ·rw [if_pos c28] at H
         have c28b0:decide (0≤x9_1)=true:=decide_eq_true c28
         clear c28
         by_cases c29:x7_1.length<17592186044416
         ·rw [if_pos c29] at H
          have LMc29:=Aside0.mk c29
          clear c29
          obtain ⟨y251,hy251⟩:∃ y_:List Int,y_=(x7_1 ++ [Int.tmod (wrap64 (x8_1+(rd t235 x9_1))) 10000]):=⟨_,rfl⟩
          replace H:(c1_Plus.l0 kj6 t232 t235 y251 (wrap64 (Int.tdiv (wrap64 (x8_1+(rd t235 x9_1))) 10000)) (wrap64 (x9_1+1)))=some r:=by first|(rw [hy251]; with_reducible exact H)|(have H2_:=(Option.bind_some _ _).symm.trans H; rw [hy251]; with_reducible exact H2_)|(have H2_:=(Option.bind_some _ _).symm.trans H; with_reducible exact H2_)|with_reducible exact H|(rw [hy251]; exact H)|exact H
          have Ny251:=Aside0.mk hy251
          clear hy251
          have H':=Aside0.mk H
          clear H
          obtain ⟨Ao30,co30,eo30⟩:=Kd.V_slice HO_5.out
          subst eo30
          obtain ⟨Ao31,co31,eo31⟩:=Kd.V_slice HO_6.out
          subst eo31
          have p250:0≤(x9_1:Int):=of_decide_eq_true (by first|(with_reducible assumption)|assumption)
          have q250:x9_1<(t235.length:Int):=of_decide_eq_true (by first|(with_reducible assumption)|assumption)
          obtain ⟨ad250,e250,hx250_0⟩:=Kd.at_int (Kd.V_reads' HO_6.out).2.2 x9_1 p250 q250
          cases e250
          replace p250:=eq_true p250
          replace q250:=eq_true q250
          go_wp2_with (first|((with_reducible refine zbX (b:=.append) (xs:=#[.tmp 50,.tmp 53]) rfl ?_); (try (refine zcV (by rfl) ?_; dsimp only)); at_builtin; refine Kd.R_append (Kd.int .i64) (w0:=w) w.heap.size rfl (.tmp 50) (.tmp 53) 92 3 (.int .i64 0) 8 rfl Tryz.underlying92 info3 rfl (by decide) (by omega) u7 x7_1 (Int.tmod (wrap64 (x8_1+(rd t235 x9_1))) 10000) [.int .i64 (Int.tmod (wrap64 (x8_1+(rd t235 x9_1))) 10000)] (fun _=>True) (fun _=>False) rfl rfl ?aP (fun _ hk=>hk.elim) ?aF ?aO ?aB ?aS ?aL ?_; (case aP=>exact rfl); (case aB=>exact (by repeat (first|(with_reducible first|exact HB.out|apply zaa|apply zab|apply zac)|exact HB.out))); (case aF=>exact (fun _ _=>trivial)); (case aO=>exact (by (with_reducible repeat (first|apply Kd.R_alloc|apply Kd.R_drewN|apply Kd.R_drew)); exact HO_7.out)); (case aS=>exact (zal (by repeat (first|(with_reducible first|exact HB.out|apply zaa|apply zab|apply zac)|exact HB.out)))); (case aL=>have:=LMc29.out; omega); intro v252 w32 ho hb hg hat; rw [←Ny251.out] at ho; have n0_:=Aside0.mk (Kd.V_afterv (ok:=(fun _=>True)) (by (with_reducible repeat (first|apply Kd.V_alloc|apply Kd.V_drewN|apply Kd.V_drew)); exact Kd.V_mono HO_5.out (fun _ hk=>⟨trivial,hk⟩)) hg hat); have n1_:=Aside0.mk (Kd.V_afterv (ok:=(fun _=>True)) (by (with_reducible repeat (first|apply Kd.V_alloc|apply Kd.V_drewN|apply Kd.V_drew)); exact Kd.V_mono HO_6.out (fun _ hk=>⟨trivial,hk⟩)) hg hat); have n2_:=Aside0.mk (hb); have n3_:=Aside0.mk (ho); clear HO_5; clear HO_6; clear HB; clear HO_7; have HO_5:=n0_; have HO_6:=n1_; have HB:=n2_; have HO253:=n3_; clear n0_ n1_ n2_ n3_; clear ho hb hg hat))
          go_roundg kj6
          case measure=>have:=HK1.out; have:=HJ6.out; omega
          case rel=>exact ⟨(y251),(wrap64 (Int.tdiv (wrap64 (x8_1+(rd t235 x9_1))) 10000)),(wrap64 (x9_1+1)),(by first|rfl|(simp; done)|(simp [*]; done)),(by first|rfl|(simp; done)|(simp [*]; done)),H',⟨by have:=HK1.out; have:=HJ6.out; omega⟩,⟨by (with_reducible repeat (first|apply Kd.V_alloc|apply Kd.V_drewN|apply Kd.V_drew)); exact Kd.V_mono HO_5.out (fun _ hk=>hk.2)⟩,⟨by (with_reducible repeat (first|apply Kd.V_alloc|apply Kd.V_drewN|apply Kd.V_drew)); exact Kd.V_mono HO_6.out (fun _ hk=>hk.2)⟩,⟨by (with_reducible repeat (first|apply Kd.R_alloc|apply Kd.R_drewN|apply Kd.R_drew)); exact HO253.out⟩,⟨by repeat (first|(with_reducible first|exact HB.out|apply zaa|apply zab|apply zac)|exact HB.out)⟩⟩
         ·rw [if_neg c29] at H
          exact absurd H (by simp)
        ·rw [if_neg c28] at H
         exact absurd H (by simp)
       ·rw [if_neg c27] at H
        have c27b0:decide (x9_1<(t235.length:Int))=false:=decide_eq_false c27
        clear c27
        by_cases c33:x7_1.length<17592186044416
        ·rw [if_pos c33] at H
         have LMc33:=Aside0.mk c33
         clear c33
         obtain ⟨y254,hy254⟩:∃ y_:List Int,y_=(x7_1 ++ [Int.tmod x8_1 10000]):=⟨_,rfl⟩
         replace H:(c1_Plus.l0 kj6 t232 t235 y254 (wrap64 (Int.tdiv x8_1 10000)) (wrap64 (x9_1+1)))=some r:=by first|(rw [hy254]; with_reducible exact H)|(have H2_:=(Option.bind_some _ _).symm.trans H; rw [hy254]; with_reducible exact H2_)|(have H2_:=(Option.bind_some _ _).symm.trans H; with_reducible exact H2_)|with_reducible exact H|(rw [hy254]; exact H)|exact H
         have Ny254:=Aside0.mk hy254
         clear hy254
         have H':=Aside0.mk H
         clear H
         obtain ⟨Ao34,co34,eo34⟩:=Kd.V_slice HO_5.out
         subst eo34
         obtain ⟨Ao35,co35,eo35⟩:=Kd.V_slice HO_6.out
         subst eo35
         go_wp2_with (first|((with_reducible refine zbX (b:=.append) (xs:=#[.tmp 50,.tmp 53]) rfl ?_); (try (refine zcV (by rfl) ?_; dsimp only)); at_builtin; refine Kd.R_append (Kd.int .i64) (w0:=w) w.heap.size rfl (.tmp 50) (.tmp 53) 92 3 (.int .i64 0) 8 rfl Tryz.underlying92 info3 rfl (by decide) (by omega) u7 x7_1 (Int.tmod x8_1 10000) [.int .i64 (Int.tmod x8_1 10000)] (fun _=>True) (fun _=>False) rfl rfl ?aP (fun _ hk=>hk.elim) ?aF ?aO ?aB ?aS ?aL ?_; (case aP=>exact rfl); (case aB=>exact (by repeat (first|(with_reducible first|exact HB.out|apply zaa|apply zab|apply zac)|exact HB.out))); (case aF=>exact (fun _ _=>trivial)); (case aO=>exact (by (with_reducible repeat (first|apply Kd.R_alloc|apply Kd.R_drewN|apply Kd.R_drew)); exact HO_7.out)); (case aS=>exact (zal (by repeat (first|(with_reducible first|exact HB.out|apply zaa|apply zab|apply zac)|exact HB.out)))); (case aL=>have:=LMc33.out; omega); intro v255 w36 ho hb hg hat; rw [←Ny254.out] at ho; have n0_:=Aside0.mk (Kd.V_afterv (ok:=(fun _=>True)) (by (with_reducible repeat (first|apply Kd.V_alloc|apply Kd.V_drewN|apply Kd.V_drew)); exact Kd.V_mono HO_5.out (fun _ hk=>⟨trivial,hk⟩)) hg hat); have n1_:=Aside0.mk (Kd.V_afterv (ok:=(fun _=>True)) (by (with_reducible repeat (first|apply Kd.V_alloc|apply Kd.V_drewN|apply Kd.V_drew)); exact Kd.V_mono HO_6.out (fun _ hk=>⟨trivial,hk⟩)) hg hat); have n2_:=Aside0.mk (hb); have n3_:=Aside0.mk (ho); clear HO_5; clear HO_6; clear HB; clear HO_7; have HO_5:=n0_; have HO_6:=n1_; have HB:=n2_; have HO256:=n3_; clear n0_ n1_ n2_ n3_; clear ho hb hg hat))
         go_roundg kj6
         case measure=>have:=HK1.out; have:=HJ6.out; omega
         case rel=>exact ⟨(y254),(wrap64 (Int.tdiv x8_1 10000)),(wrap64 (x9_1+1)),(by first|rfl|(simp; done)|(simp [*]; done)),(by first|rfl|(simp; done)|(simp [*]; done)),H',⟨by have:=HK1.out; have:=HJ6.out; omega⟩,⟨by (with_reducible repeat (first|apply Kd.V_alloc|apply Kd.V_drewN|apply Kd.V_drew)); exact Kd.V_mono HO_5.out (fun _ hk=>hk.2)⟩,⟨by (with_reducible repeat (first|apply Kd.V_alloc|apply Kd.V_drewN|apply Kd.V_drew)); exact Kd.V_mono HO_6.out (fun _ hk=>hk.2)⟩,⟨by (with_reducible repeat (first|apply Kd.R_alloc|apply Kd.R_drewN|apply Kd.R_drew)); exact HO256.out⟩,⟨by repeat (first|(with_reducible first|exact HB.out|apply zaa|apply zab|apply zac)|exact HB.out)⟩⟩
        ·rw [if_neg c33] at H
         exact absurd H (by simp)
     ·replace c15:=Bool.eq_false_iff.mpr c15
      subst c15
      have H1:((c1_trim.f kj6 x7_1).bind fun t238=>((c1_text.f t238).bind fun t241=>(some t241)))=some r:=by rw [if_neg (show ¬ (false=true) by decide)] at H; exact H
      clear H
      have H:=H1
      clear H1
      replace H:=Option.bind_eq_some_iff.mp H
      obtain ⟨t238,A370,H⟩:=H
      replace H:((c1_text.f t238).bind fun t241=>(some t241))=some r:=H
      have A37:=Aside0.mk A370
      clear A370
      replace H:=Option.bind_eq_some_iff.mp H
      obtain ⟨t241,A380,H⟩:=H
      replace H:(some t241)=some r:=H
      have A38:=Aside0.mk A380
      clear A380
      obtain rfl:=Option.some.inj H
      obtain ⟨Ao39,co39,eo39⟩:=Kd.R_slice HO_7.out
      subst eo39
      go_wp2_with (first|((with_reducible refine zav (f:=208) rfl ?_); refine za5 (some 58) rfl rfl Tryz.func208 (by kernel_rfl) rfl #[.slice Ao39 x7_1.length co39] rfl (by (try simp only [List.map_toArray,List.map_cons,List.map_nil]); first|done|rfl|(simp only [List.length_drop,List.length_take]; rfl)) ?_; (with_reducible refine (c1_trim.calls kj6 (fun k_=>some k_=(.slice Ao39 x7_1.length co39:Value).ownBlock) _ _ x7_1 t238 _ ?side1 A37.out).mono ?_); (case side1=>exact Kd.R_V (Kd.R_tight rfl (HO_7.out))); rintro e w40 ⟨v239,rfl,ho0,hb⟩; refine ⟨_,rfl,?_⟩; have n0_:=Aside0.mk (Kd.V_below (by (with_reducible repeat (first|apply Kd.V_alloc|apply Kd.V_drewN|apply Kd.V_drew)); exact HO_5.out) hb); have n1_:=Aside0.mk (Kd.V_below (by (with_reducible repeat (first|apply Kd.V_alloc|apply Kd.V_drewN|apply Kd.V_drew)); exact HO_6.out) hb); have n2_:=Aside0.mk (Kd.R_below (by (with_reducible repeat (first|apply Kd.R_alloc|apply Kd.R_drewN|apply Kd.R_drew)); exact HO_7.out) hb); have n3_:=Aside0.mk (Kd.V_lower (Kd.V_mono (ok':=fun k_=>True) ho0 (fun k_ hk_=>trivial)) (zal (by repeat (first|(with_reducible first|exact HB.out|apply zaa|apply zab|apply zac)|exact HB.out)))); have n4_:=Aside0.mk (zam (by repeat (first|(with_reducible first|exact HB.out|apply zaa|apply zab|apply zac)|exact HB.out)) hb); clear HO_5; clear HO_6; clear HO_7; clear HB; have HO_5:=n0_; have HO_6:=n1_; have HO_7:=n2_; have HO240:=n3_; have HB:=n4_; clear n0_ n1_ n2_ n3_ n4_; (try clear hb); (try clear hb2); (try clear hk); (try clear hi); (try clear ho0); obtain ⟨Ao41,co41,eo41⟩:=Kd.V_slice HO240.out; subst eo41)|((with_reducible refine zav (f:=207) rfl ?_); refine za5 (some 59) rfl rfl Tryz.func207 (by kernel_rfl) rfl #[.slice Ao41 t238.length co41] rfl (by (try simp only [List.map_toArray,List.map_cons,List.map_nil]); first|done|rfl|(simp only [List.length_drop,List.length_take]; rfl)) ?_; (with_reducible refine (c1_text.calls _ _ t238 t241 _ ?side1 ?side2 A38.out).mono ?_); (case side1=>repeat (first|exact (Kd.V_reads' HO240.out).2.2|(with_reducible refine Kd.C_alloc ?_ _)|(with_reducible refine Kd.C_drewN ?_ _)|(with_reducible refine Kd.C_drew ?_))); (case side2=>exact (Kd.V_reads' HO240.out).2.1); rintro e w42 ⟨rfl,hb⟩; refine ⟨_,rfl,?_⟩; have n0_:=Aside0.mk (Kd.V_below (by (with_reducible repeat (first|apply Kd.V_alloc|apply Kd.V_drewN|apply Kd.V_drew)); exact HO_5.out) hb); have n1_:=Aside0.mk (Kd.V_below (by (with_reducible repeat (first|apply Kd.V_alloc|apply Kd.V_drewN|apply Kd.V_drew)); exact HO_6.out) hb); have n2_:=Aside0.mk (Kd.R_below (by (with_reducible repeat (first|apply Kd.R_alloc|apply Kd.R_drewN|apply Kd.R_drew)); exact HO_7.out) hb); have n3_:=Aside0.mk (Kd.V_below (by (with_reducible repeat (first|apply Kd.V_alloc|apply Kd.V_drewN|apply Kd.V_drew)); exact HO240.out) hb); have n4_:=Aside0.mk (zam (by repeat (first|(with_reducible first|exact HB.out|apply zaa|apply zab|apply zac)|exact HB.out)) hb); clear HO_5; clear HO_6; clear HO_7; clear HO240; clear HB; have HO_5:=n0_; have HO_6:=n1_; have HO_7:=n2_; have HO240:=n3_; have HB:=n4_; clear n0_ n1_ n2_ n3_ n4_; (try clear hb); (try clear hb2); (try clear hk); (try clear hi)))
      go_ret
      exact ⟨by first|rfl|(simp [zao,zan]<;>rfl)|(simp [*,zao,zan]<;>rfl),by repeat (first|(with_reducible first|exact HB.out|apply zaa|apply zab|apply zac)|exact HB.out)⟩
end Go.Proofs.ZP
end
section
namespace Go.Proofs.ZP
open Go.RowKit Go.Proofs.ZW.Wa
def rz (xs:List Int) (i:Nat):Int:=if i<xs.length then rd xs (i:Int) else 0
theorem rz_bd {xs:List Int} (h:Ld xs) (i:Nat):0≤rz xs i∧rz xs i<10000:=by
  unfold rz
  split
  · exact h.rd _
  · exact ⟨by decide,by decide⟩
theorem lv_drop (xs:List Int) (i:Nat):lv (xs.drop i)=rz xs i+10000*lv (xs.drop (i+1)):=by
  unfold rz
  split
  · rename_i h
    rw [List.drop_eq_getElem_cons h,rd_lt h]; rfl
  · rename_i h
    rw [List.drop_eq_nil_of_le (by omega),List.drop_eq_nil_of_le (by omega)]; rfl
theorem Ld.snoc {xs:List Int} (h:Ld xs) {v:Int} (h0:0≤v) (h1:v<10000):Ld (xs ++ [v]):=h.append (Ld.cons h0 h1 Ld.nil)
theorem lv_snoc (xs:List Int) (v:Int):lv (xs ++ [v])=lv xs+10000^xs.length*v:=by rw [zco]; simp [lv]
theorem plus_loop (xs ys : List Int) (hx : Ld xs) (hy : Ld ys) (hlx : xs.length ≤ 274877906944) (hly : ys.length ≤ 274877906944) (n : Nat) (hn : (lim n).length ≤ 1099511627776) : ∀ (d i : Nat) (out : List Int) (c : Int), out.length = i → Ld out → 0 ≤ c → c ≤ 1 → i + d = xs.length + ys.length + 2 → (xs.length + ys.length < i → c = 0) → i ≤ xs.length + ys.length + 1 →
    lv out+10000^i*(lv (xs.drop i)+lv (ys.drop i)+c)=n→Ev (fun k=>c1_Plus.l0 k xs ys out c (i:Int)) (T n):=by
  intro d
  induction d with
  | zero=>intro i out c _ _ _ _ h1 _ h2; omega
  | succ d ih =>
    intro i out c hol hod hc0 hc1 hid hic hib hv
    by_cases hgo:i<xs.length∨i<ys.length∨0<c
    · have bx:=rz_bd hx i
      have bY:=rz_bd hy i
      have dx:=lv_drop xs i
      have dy:=lv_drop ys i
      have hstep:=ih (i+1) (out ++ [(c+rz xs i+rz ys i)%10000]) ((c+rz xs i+rz ys i)/10000) (by simp [hol]) (hod.snoc (by omega) (by omega)) (by omega) (by omega) (by omega) (fun h=>by
          have e1:rz xs i=0:=if_neg (by omega)
          have e2:rz ys i=0:=if_neg (by omega)
          omega) (by
          rcases hgo with h|h|h
          · omega
          · omega
          · have:=hic
            omega)
        (by
          rw [lv_snoc,hol,←hv,dx,dy,Int.pow_succ]
          have e:=Int.emod_add_mul_ediv (c+rz xs i+rz ys i) 10000
          generalize (c+rz xs i+rz ys i)%10000=r at *
          generalize (c+rz xs i+rz ys i)/10000=q at *
          generalize (10000:Int)^i=P
          have e2:c=r+10000*q-rz xs i-rz ys i:=by omega
          rw [e2]
          grind)
      have hj:Ev (fun k=>c1_Plus.j1 k xs ys out c (i:Int) true) (T n):=by
        refine Ev.step (fun k => ?_) hstep
        simp only [c1_Plus.j1]
        rw [if_pos (by trivial)]
        by_cases h1:i<xs.length
        · have e1:rz xs i=rd xs (i:Int):=if_pos h1
          rw [if_pos (by omega),if_pos (by omega)]
          by_cases h2:i<ys.length
          · have e2:rz ys i=rd ys (i:Int):=if_pos h2
            rw [if_pos (by omega),if_pos (by omega),←e1,←e2,w64' (x:=c+rz xs i) (by omega) (by omega),w64' (x:=c+rz xs i+rz ys i) (by omega) (by omega),Int.tmod_eq_emod_of_nonneg (by omega),Int.tdiv_eq_ediv_of_nonneg (by omega),w64' (by omega) (by omega),w64' (by omega) (by omega)]
            rfl
          · have e2:rz ys i=0:=if_neg h2
            rw [if_neg (by omega),if_pos (by omega),←e1,e2,w64' (x:=c+rz xs i) (by omega) (by omega),Int.tmod_eq_emod_of_nonneg (by omega),Int.tdiv_eq_ediv_of_nonneg (by omega),w64' (by omega) (by omega),w64' (by omega) (by omega),Int.add_zero]
            rfl
        · have e1:rz xs i=0:=if_neg h1
          rw [if_neg (by omega)]
          by_cases h2:i<ys.length
          · have e2:rz ys i=rd ys (i:Int):=if_pos h2
            rw [if_pos (by omega),if_pos (by omega),if_pos (by omega),←e2,e1,w64' (x:=c+rz ys i) (by omega) (by omega),Int.tmod_eq_emod_of_nonneg (by omega),Int.tdiv_eq_ediv_of_nonneg (by omega),w64' (by omega) (by omega),w64' (by omega) (by omega),Int.add_zero]
            rfl
          · have e2:rz ys i=0:=if_neg h2
            rw [if_neg (by omega),if_pos (by omega),e1,e2,Int.tmod_eq_emod_of_nonneg (by omega),Int.tdiv_eq_ediv_of_nonneg (by omega),w64' (by omega) (by omega),w64' (by omega) (by omega),Int.add_zero,Int.add_zero]
            rfl
      refine Ev.step (fun k => ?_) hj
      simp only [c1_Plus.l0]
      by_cases h1:i<xs.length
      · rw [if_pos (by omega)]
      · rw [if_neg (by omega)]
        by_cases h2:i<ys.length
        · rw [if_pos (by omega)]
        · rw [if_neg (by omega),decide_eq_true (show c>0 by omega)]
    · have hc:c=0:=by omega
      subst hc
      rw [List.drop_eq_nil_of_le (by omega),List.drop_eq_nil_of_le (by omega)] at hv
      simp only [lv,Int.add_zero,Int.mul_zero] at hv
      have ht:=trim_ev out.length out rfl (by omega) hod
      rw [hv,Int.toNat_natCast] at ht
      have hj:Ev (fun k=>c1_Plus.j1 k xs ys out 0 (i:Int) false) (T n):=by
        refine Ev.step (f:=fun k=>(c1_trim.f k out).bind fun t238=>((c1_text.f t238).bind fun t241=>(some t241))) (fun k => ?_) (Ev.bind ht ?_)
        · simp only [c1_Plus.j1]
          rw [if_neg (by simp)]
        · simp only [zdi n hn,Option.bind_some]
          exact Ev.now _
      refine Ev.step (fun k => ?_) hj
      simp only [c1_Plus.l0]
      rw [if_neg (by omega),if_neg (by omega)]
      rfl
def Fine (n:Nat):Prop:=(T n).size≤274877906944
theorem Fine.lim {n:Nat} (h:Fine n):(lim n).length≤274877906944:=by have:=za0 n; unfold Fine at h; omega
theorem plus_ev {a b:Nat} (ha:Fine a) (hb:Fine b) (hc:Fine (a+b)):Ev (fun k=>c1_Plus.f k (T a) (T b)) (T (a+b)):=by
  unfold c1_Plus.f
  refine Ev.bind (limbs_T a (by unfold Fine at ha; omega)) (Ev.bind (limbs_T b (by unfold Fine at hb; omega)) ?_)
  refine plus_loop _ _ (zch a) (zch b) ha.lim hb.lim (a+b) (by have:=hc.lim; omega) ((lim a).length+(lim b).length+2) 0 [] 0 rfl Ld.nil (by decide) (by decide) (by omega) (fun _=>rfl) (by omega) ?_
  rw [List.drop_zero,List.drop_zero,zbL,zbL]
  simp [lv]
end Go.Proofs.ZP
end
section
namespace Go.Proofs.ZP
open Go.RowKit Go.Proofs.ZW.Wa Go.Proofs.ZW.Wb Go.Proofs.ZW.Wc
attribute [local go_sem] zaC zaB zaM zaL zaz zay zaF zaE
mutual
def c1_times.l0:Nat→List Int→List Int→List Int→Int→Option (List Int)
 | 0,_,_,_,_=>none
 | k+1,x0,x1,x5,x6=>if x6<(x0.length:Int) then (c1_times.l1 k x0 x1 x5 x6 0 0) else ((c1_trim.f k x5).bind fun t275=>(some t275))
def c1_times.l1:Nat→List Int→List Int→List Int→Int→Int→Int→Option (List Int)
 | 0,_,_,_,_,_,_=>none
 | k+1,x0,x1,x5,x6,x7,x8=>if x8<(x1.length:Int) then (if 0≤(wrap64 (x6+x8)) then (if (wrap64 (x6+x8))<(x5.length:Int) then (if 0≤x6 then (if x6<(x0.length:Int) then (if 0≤x8 then (c1_times.l1 k x0 x1 (x5.set ((wrap64 (x6+x8)):Int).toNat (Int.tmod (wrap64 ((wrap64 (x7+(rd x5 (wrap64 (x6+x8)))))+(wrap64 ((rd x0 x6)*(rd x1 x8))))) 10000)) x6 (wrap64 (Int.tdiv (wrap64 ((wrap64 (x7+(rd x5 (wrap64 (x6+x8)))))+(wrap64 ((rd x0 x6)*(rd x1 x8))))) 10000)) (wrap64 (x8+1))) else (none)) else (none)) else (none)) else (none)) else (none)) else (c1_times.l2 k x0 x1 x5 x6 x7 (wrap64 (x6+(x1.length:Int))))
def c1_times.l2:Nat→List Int→List Int→List Int→Int→Int→Int→Option (List Int)
 | 0,_,_,_,_,_,_=>none
 | k+1,x0,x1,x5,x6,x7,x9=>if x7>0 then (if 0≤x9 then (if x9<(x5.length:Int) then (c1_times.l2 k x0 x1 (x5.set (x9:Int).toNat (Int.tmod (wrap64 (x7+(rd x5 x9))) 10000)) x6 (wrap64 (Int.tdiv (wrap64 (x7+(rd x5 x9))) 10000)) (wrap64 (x9+1))) else (none)) else (none)) else (c1_times.l0 k x0 x1 x5 (wrap64 (x6+1)))
end
def c1_times.f (k:Nat) (l0:List Int) (l1:List Int):Option (List Int):=if 0≤(wrap64 ((l0.length:Int)+(l1.length:Int))) then (if (wrap64 ((l0.length:Int)+(l1.length:Int)):Int).toNat≤35184372088832 then (c1_times.l0 k l0 l1 (List.replicate (wrap64 ((l0.length:Int)+(l1.length:Int)):Int).toNat 0) 0) else (none)) else (none)
theorem c1_times.calls (k:Nat) (A0:Option Addr) (c0:Nat) (l0:List Int) (A1:Option Addr) (c1:Nat) (l1:List Int) (r:List Int) (w:World) (hr0:Kd.C (Kd.int .i64) w A0 l0.length l0) (hc0:l0.length≤c0) (hr1:Kd.C (Kd.int .i64) w A1 l1.length l1) (hc1:l1.length≤c1) (h:c1_times.f k l0 l1=some r) :
  Calls Tryz.prog 209 #[.slice A0 l0.length c0,.slice A1 l1.length c1] w fun e w'=>∃ v0_:Value,e = .returned (v0_)∧Kd.V (Kd.int .i64) 3 w' w.heap.size (fun k_=>(w.heap.size≤k_)) v0_ r∧Below w.heap.size w w':=by
 have HR0:=Aside0.mk hr0
 have HC0:=Aside0.mk hc0
 clear hr0 hc0
 have HR1:=Aside0.mk hr1
 have HC1:=Aside0.mk hc1
 clear hr1 hc1
 have HB:=Aside0.mk (Below.refl w.heap.size w)
 have H:(if 0≤(wrap64 ((l0.length:Int)+(l1.length:Int))) then (if (wrap64 ((l0.length:Int)+(l1.length:Int)):Int).toNat≤35184372088832 then (c1_times.l0 k l0 l1 (List.replicate (wrap64 ((l0.length:Int)+(l1.length:Int)):Int).toNat 0) 0) else (none)) else (none))=some r:=h
 clear h
 obtain ⟨ji3,hji3⟩:∃ j_:Int,(wrap64 ((l0.length:Int)+(l1.length:Int)))=j_:=⟨_,rfl⟩
 replace H:(if 0≤(ji3) then (if (ji3:Int).toNat≤35184372088832 then (c1_times.l0 k l0 l1 (List.replicate (ji3:Int).toNat 0) 0) else (none)) else (none))=some r:=by first|(rw [hji3] at H; exact H)|(simp only [hji3] at H ⊢; exact H)
 have hji3w:(IntKind.i64.wrap ((l0.length:Int)+(l1.length:Int)))=ji3:=(i64_w _).trans hji3
 by_cases c4:0≤(ji3)
 ·rw [if_pos c4] at H
  have c4b0:=eq_true c4
  have c4b1:decide (0≤(ji3))=true:=decide_eq_true c4
  clear c4
  by_cases c5:(ji3:Int).toNat≤35184372088832
  ·rw [if_pos c5] at H
   have c5b0:=eq_true c5
   have c5b1:decide ((ji3:Int).toNat≤35184372088832)=true:=decide_eq_true c5
   clear c5
   obtain ⟨y272,hy272⟩:∃ y_:List Int,y_=(List.replicate (ji3:Int).toNat 0):=⟨_,rfl⟩
   replace H:(c1_times.l0 k l0 l1 y272 0)=some r:=by first|(rw [hy272]; with_reducible exact H)|(have H2_:=(Option.bind_some _ _).symm.trans H; rw [hy272]; with_reducible exact H2_)|(have H2_:=(Option.bind_some _ _).symm.trans H; with_reducible exact H2_)|with_reducible exact H|(rw [hy272]; exact H)|exact H
   have Ny272:=Aside0.mk hy272
   clear hy272
   have H':=Aside0.mk H
   clear H
   go_enter Tryz.func209,Tryz.ntmps209
   go_wp2_with (first|((with_reducible refine zaG (N:=15) rfl ?_); refine Kd.R_make (Kd.int .i64) _ 3 rfl (N:=15) rfl 92 _ _ rfl ji3 rfl rfl Tryz.underlying92 (.int .i64 0) 8 info3 rfl (by decide) (by omega) 0 (ok:=fun _=>True) (okp:=fun _=>True) rfl (fun _ hk=>hk) trivial (of_decide_eq_true (by first|(with_reducible assumption)|assumption)) (Nat.le_trans (Nat.mul_le_mul_right _ (of_decide_eq_true (by first|(with_reducible assumption)|assumption):ji3.toNat≤35184372088832)) (by omega)) (Below.refl _ _) (Nat.le_refl _) ?_; intro v273 w6 ho7 hb hg_ hnew_; clear hg_ hnew_; (first|rw [←Ny272.out] at ho7|(simp only [Int.reduceToNat] at ho7; rw [←Ny272.out] at ho7)); have n0_:=Aside0.mk (Kd.R_lower (Kd.R_newM (M:=fun k_=>(w.heap.size≤k_)) ho7 (zal (by repeat (first|(with_reducible first|exact HB.out|apply zaa|apply zab|apply zac)|exact HB.out))) (fun k_ h_=>h_)) (zal (by repeat (first|(with_reducible first|exact HB.out|apply zaa|apply zab|apply zac)|exact HB.out)))); have n1_:=Aside0.mk (zam (by repeat (first|(with_reducible first|exact HB.out|apply zaa|apply zab|apply zac)|exact HB.out)) hb); clear HB; have HO274:=n0_; have HB:=n1_; clear n0_ n1_; clear hb ho7))
   go_loopg [6] k (fun kq v6 w'=>∃ (x5_1:List Int) (x6_1:Int),v6 = .int .i64 x6_1∧Aside0 (c1_times.l0 kq l0 l1 x5_1 x6_1=some r)∧Aside0 (kq≤k)∧Aside0 (Kd.R (Kd.int .i64) 3 w' w.heap.size (fun k_=>(w.heap.size≤k_)) v273 x5_1)∧Aside0 (Below w.heap.size w w'))
   case atStart=>exact ⟨(y272),(0),(by first|rfl|(simp; done)|(simp [*]; done)),H',⟨Nat.le_refl _⟩,⟨by (with_reducible repeat (first|apply Kd.R_alloc|apply Kd.R_drewN|apply Kd.R_drew)); exact Kd.R_mono HO274.out (fun _ hk=>hk.1)⟩,⟨by repeat (first|(with_reducible first|exact HB.out|apply zaa|apply zab|apply zac)|exact HB.out)⟩⟩
   case round =>
    clear H'
    try clear c1
    try clear c2
    try clear p2
    try clear c4
    try clear c4b0
    try clear c4b1
    try clear c5
    try clear c5b0
    try clear c5b1
    try clear p6
    obtain ⟨x5_1,x6_1,rfl,HA,HK1,HO_5,HB⟩:=hrel
    cases gk with
    | zero=>exact absurd HA.out (by simp [c1_times.l0])
    | succ k1 =>
     have H:=HA.out
     clear HA
     simp only [c1_times.l0] at H
     by_cases c8:x6_1<(l0.length:Int)
     ·rw [if_pos c8] at H
      have c8b0:decide (x6_1<(l0.length:Int))=true:=decide_eq_true c8
      clear c8
      have H':=Aside0.mk H
      clear H
      go_wp2
      go_loopg [7,8] k1 (fun kq v7 v8 w'=>∃ (x5_2:List Int) (x7_2:Int) (x8_2:Int),v7 = .int .i64 x7_2∧v8 = .int .i64 x8_2∧Aside0 (c1_times.l1 kq l0 l1 x5_2 x6_1 x7_2 x8_2=some r)∧Aside0 (kq≤k1)∧Aside0 (Kd.R (Kd.int .i64) 3 w' w.heap.size (fun k_=>(w.heap.size≤k_)) v273 x5_2)∧Aside0 (Below w.heap.size w w'))
      case atStart=>exact ⟨(x5_1),(0),(0),(by first|rfl|(simp; done)|(simp [*]; done)),(by first|rfl|(simp; done)|(simp [*]; done)),H',⟨Nat.le_refl _⟩,⟨by (with_reducible repeat (first|apply Kd.R_alloc|apply Kd.R_drewN|apply Kd.R_drew)); exact HO_5.out⟩,⟨by repeat (first|(with_reducible first|exact HB.out|apply zaa|apply zab|apply zac)|exact HB.out)⟩⟩
      case round =>
       clear H'
       try clear c1
       try clear c2
       try clear p2
       try clear c4
       try clear c4b0
       try clear c4b1
       try clear c5
       try clear c5b0
       try clear c5b1
       try clear p6
       try clear c8
       try clear c8b0
       try clear p2
       try clear p6
       obtain ⟨x5_2,x7_2,x8_2,rfl,rfl,HA,HK2,HO_5,HB⟩:=hrel
       cases gk with
       | zero=>exact absurd HA.out (by simp [c1_times.l1])
       | succ k2 =>
        have H:=HA.out
        clear HA
        simp only [c1_times.l1] at H
        by_cases c9:x8_2<(l1.length:Int)
        ·rw [if_pos c9] at H
         have c9b0:decide (x8_2<(l1.length:Int))=true:=decide_eq_true c9
         clear c9
         obtain ⟨ji10,hji10⟩:∃ j_:Int,(wrap64 (x6_1+x8_2))=j_:=⟨_,rfl⟩
         replace H:(if 0≤(ji10) then (if (ji10)<(x5_2.length:Int) then (if 0≤x6_1 then (if x6_1<(l0.length:Int) then (if 0≤x8_2 then (c1_times.l1 k2 l0 l1 (x5_2.set ((ji10):Int).toNat (Int.tmod (wrap64 ((wrap64 (x7_2+(rd x5_2 (ji10))))+(wrap64 ((rd l0 x6_1)*(rd l1 x8_2))))) 10000)) x6_1 (wrap64 (Int.tdiv (wrap64 ((wrap64 (x7_2+(rd x5_2 (ji10))))+(wrap64 ((rd l0 x6_1)*(rd l1 x8_2))))) 10000)) (wrap64 (x8_2+1))) else (none)) else (none)) else (none)) else (none)) else (none))=some r:=by first|(rw [hji10] at H; exact H)|(simp only [hji10] at H ⊢; exact H)
         have hji10w:(IntKind.i64.wrap (x6_1+x8_2))=ji10:=(i64_w _).trans hji10
         by_cases c11:0≤(ji10)
         ·rw [if_pos c11] at H
          have c11b0:decide (0≤(ji10))=true:=decide_eq_true c11
          clear c11
          by_cases c12:(ji10)<(x5_2.length:Int)
          ·rw [if_pos c12] at H
           have c12b0:decide ((ji10)<(x5_2.length:Int))=true:=decide_eq_true c12
           clear c12
           by_cases c13:0≤x6_1
           ·rw [if_pos c13] at H
            have c13b0:decide (0≤x6_1)=true:=decide_eq_true c13
            clear c13
            by_cases c14:x6_1<(l0.length:Int)
            ·rw [if_pos c14] at H
             have c14b0:decide (x6_1<(l0.length:Int))=true:=decide_eq_true c14
             clear c14
             by_cases c15:0≤x8_2
             ·rw [if_pos c15] at H
              have c15b0:decide (0≤x8_2)=true:=decide_eq_true c15
              clear c15
              obtain ⟨y281,hy281⟩:∃ y_:List Int,y_=(x5_2.set ((ji10):Int).toNat (Int.tmod (wrap64 ((wrap64 (x7_2+(rd x5_2 (ji10))))+(wrap64 ((rd l0 x6_1)*(rd l1 x8_2))))) 10000)):=⟨_,rfl⟩
              replace H:(c1_times.l1 k2 l0 l1 y281 x6_1 (wrap64 (Int.tdiv (wrap64 ((wrap64 (x7_2+(rd x5_2 (ji10))))+(wrap64 ((rd l0 x6_1)*(rd l1 x8_2))))) 10000)) (wrap64 (x8_2+1)))=some r:=by first|(rw [hy281]; with_reducible exact H)|(have H2_:=(Option.bind_some _ _).symm.trans H; rw [hy281]; with_reducible exact H2_)|(have H2_:=(Option.bind_some _ _).symm.trans H; with_reducible exact H2_)|with_reducible exact H|(rw [hy281]; exact H)|exact H
              have Ny281:=Aside0.mk hy281
              clear hy281
              have H':=Aside0.mk H
              clear H
              obtain ⟨Ao17,co17,eo17⟩:=Kd.R_slice HO_5.out
              subst eo17
              have p278:0≤((ji10):Int):=of_decide_eq_true (by first|(with_reducible assumption)|assumption)
              have q278:(ji10)<(x5_2.length:Int):=of_decide_eq_true (by first|(with_reducible assumption)|assumption)
              obtain ⟨ad278,e278,hx278_0⟩:=Kd.at_int (Kd.R_reads' HO_5.out).2.2 (ji10) p278 q278
              cases e278
              replace p278:=eq_true p278
              replace q278:=eq_true q278
              have p279:0≤(x6_1:Int):=of_decide_eq_true (by first|(with_reducible assumption)|assumption)
              have q279:x6_1<(l0.length:Int):=of_decide_eq_true (by first|(with_reducible assumption)|assumption)
              obtain ⟨ad279,e279,hx279_0⟩:=Kd.at_int HR0.out x6_1 p279 q279
              cases e279
              replace hx279_0:=(HB.out.cell (World.block_lt_of_cell? w _ hx279_0)).trans hx279_0
              replace p279:=eq_true p279
              replace q279:=eq_true q279
              have p280:0≤(x8_2:Int):=of_decide_eq_true (by first|(with_reducible assumption)|assumption)
              have q280:x8_2<(l1.length:Int):=of_decide_eq_true (by first|(with_reducible assumption)|assumption)
              obtain ⟨ad280,e280,hx280_0⟩:=Kd.at_int HR1.out x8_2 p280 q280
              cases e280
              replace hx280_0:=(HB.out.cell (World.block_lt_of_cell? w _ hx280_0)).trans hx280_0
              replace p280:=eq_true p280
              replace q280:=eq_true q280
              have p16:0≤((ji10):Int):=of_decide_eq_true (by first|(with_reducible assumption)|assumption)
              have q16:((ji10):Int)<((x5_2.length:Int):Int):=of_decide_eq_true (by first|(with_reducible assumption)|assumption)
              obtain ⟨go16,co16,eo16,gb16,gl16,cl16,HG16⟩:=Kd.R_form HO_5.out (by omega)
              (first|cases eo16|(injection eo16 with ea_ en_ ec_; (first|subst ea_|(injection ea_ with ea_; subst ea_)); subst ec_; clear en_))
              have GB16:=Aside0.mk gb16
              have GG16:=Aside0.mk HG16
              clear gb16 gl16 HG16
              (first|simp only [zbk] at hx278_0|skip)
              obtain ⟨hx16_0,hf16_0⟩:=Kd.R_celln 0 HO_5.out ((ji10):Int) p16 q16
              replace p16:=eq_true p16
              replace q16:=eq_true q16
              have HP18:=Kd.R_putg HO_5.out ((ji10):Int) (Int.tmod (wrap64 ((wrap64 (x7_2+(rd x5_2 (ji10))))+(wrap64 ((rd l0 x6_1)*(rd l1 x8_2))))) 10000)
              go_wp2_with (first|((with_reducible refine zbn (t:=3) (p:=52) rfl ?_); (try (rw [zcW wr]; generalize hq_:World.drewN wr _=wr; have n0_:=Aside0.mk (Kd.R_at hq_ HO_5.out); have n1_:=Aside0.mk (below_at hq_ HB.out); clear hq_ HO_5 HB; have HO_5:=n0_; have HB:=n1_; clear n0_ n1_; (try (have HP18:=Kd.R_putg HO_5.out ((ji10):Int) (Int.tmod (wrap64 ((wrap64 (x7_2+(rd x5_2 (ji10))))+(wrap64 ((rd l0 x6_1)*(rd l1 x8_2))))) 10000))))); refine zbd (t:=3) (p:=52) (v:=?vo_w19) (w1:=(wr.setCell ⟨go16,((ji10):Int).toNat,none⟩ (.int .i64 (Int.tmod (wrap64 ((wrap64 (x7_2+(rd x5_2 (ji10))))+(wrap64 ((rd l0 x6_1)*(rd l1 x8_2))))) 10000)))) ?hg ?ho ?hn ?hr ?_; (case ho=>rfl); (case hg=>rfl); (case hn=>rfl); (case hr=>first|(go_simp; done)|(go_simp; rfl)); intro w19 hw; have hg:wr.grownBy w19 (some go16):=(by rw [hw]; exact HP18.2); have hp_:Kd.R (Kd.int .i64) 3 w19 w.heap.size (fun k_=>(w.heap.size≤k_)) (.slice (some ⟨go16,0,none⟩) x5_2.length co17) y281:=(by rw [hw,Ny281.out]; exact HP18.1); clear HP18; have n0_:=Aside0.mk (hp_); have n1_:=Aside0.mk ((by rw [hw]; exact zaf (HB.out) GB16.out:Below w.heap.size w w19)); clear HO_5; clear HB; have HO_5:=n0_; have HB:=n1_; clear n0_ n1_; clear hg hw hp_))
              repeat (go_quiet (first|((with_reducible refine zbn (t:=3) (p:=52) rfl ?_); (try (rw [zcW wr]; generalize hq_:World.drewN wr _=wr; have n0_:=Aside0.mk (Kd.R_at hq_ HO_5.out); have n1_:=Aside0.mk (below_at hq_ HB.out); clear hq_ HO_5 HB; have HO_5:=n0_; have HB:=n1_; clear n0_ n1_; (try (have HP18:=Kd.R_putg HO_5.out ((ji10):Int) (Int.tmod (wrap64 ((wrap64 (x7_2+(rd x5_2 (ji10))))+(wrap64 ((rd l0 x6_1)*(rd l1 x8_2))))) 10000))))); refine zbd (t:=3) (p:=52) (v:=?vo_w19) (w1:=(wr.setCell ⟨go16,((ji10):Int).toNat,none⟩ (.int .i64 (Int.tmod (wrap64 ((wrap64 (x7_2+(rd x5_2 (ji10))))+(wrap64 ((rd l0 x6_1)*(rd l1 x8_2))))) 10000)))) ?hg ?ho ?hn ?hr ?_; (case ho=>rfl); (case hg=>rfl); (case hn=>rfl); (case hr=>first|(go_simp; done)|(go_simp; rfl)); intro w19 hw; have hg:wr.grownBy w19 (some go16):=(by rw [hw]; exact HP18.2); have hp_:Kd.R (Kd.int .i64) 3 w19 w.heap.size (fun k_=>(w.heap.size≤k_)) (.slice (some ⟨go16,0,none⟩) x5_2.length co17) y281:=(by rw [hw,Ny281.out]; exact HP18.1); clear HP18; have n0_:=Aside0.mk (hp_); have n1_:=Aside0.mk ((by rw [hw]; exact zaf (HB.out) GB16.out:Below w.heap.size w w19)); clear HO_5; clear HB; have HO_5:=n0_; have HB:=n1_; clear n0_ n1_; clear hg hw hp_)); try go_wp2_with (first|((with_reducible refine zbn (t:=3) (p:=52) rfl ?_); (try (rw [zcW wr]; generalize hq_:World.drewN wr _=wr; have n0_:=Aside0.mk (Kd.R_at hq_ HO_5.out); have n1_:=Aside0.mk (below_at hq_ HB.out); clear hq_ HO_5 HB; have HO_5:=n0_; have HB:=n1_; clear n0_ n1_; (try (have HP18:=Kd.R_putg HO_5.out ((ji10):Int) (Int.tmod (wrap64 ((wrap64 (x7_2+(rd x5_2 (ji10))))+(wrap64 ((rd l0 x6_1)*(rd l1 x8_2))))) 10000))))); refine zbd (t:=3) (p:=52) (v:=?vo_w19) (w1:=(wr.setCell ⟨go16,((ji10):Int).toNat,none⟩ (.int .i64 (Int.tmod (wrap64 ((wrap64 (x7_2+(rd x5_2 (ji10))))+(wrap64 ((rd l0 x6_1)*(rd l1 x8_2))))) 10000)))) ?hg ?ho ?hn ?hr ?_; (case ho=>rfl); (case hg=>rfl); (case hn=>rfl); (case hr=>first|(go_simp; done)|(go_simp; rfl)); intro w19 hw; have hg:wr.grownBy w19 (some go16):=(by rw [hw]; exact HP18.2); have hp_:Kd.R (Kd.int .i64) 3 w19 w.heap.size (fun k_=>(w.heap.size≤k_)) (.slice (some ⟨go16,0,none⟩) x5_2.length co17) y281:=(by rw [hw,Ny281.out]; exact HP18.1); clear HP18; have n0_:=Aside0.mk (hp_); have n1_:=Aside0.mk ((by rw [hw]; exact zaf (HB.out) GB16.out:Below w.heap.size w w19)); clear HO_5; clear HB; have HO_5:=n0_; have HB:=n1_; clear n0_ n1_; clear hg hw hp_)))
              go_roundg k2
              case measure=>have:=HK1.out; have:=HK2.out; omega
              case rel=>exact ⟨(y281),(wrap64 (Int.tdiv (wrap64 ((wrap64 (x7_2+(rd x5_2 (ji10))))+(wrap64 ((rd l0 x6_1)*(rd l1 x8_2))))) 10000)),(wrap64 (x8_2+1)),(by first|rfl|(simp; done)|(simp only [←hji10]<;>(first|rfl|simp))|(simp [*]; done)),(by first|rfl|(simp; done)|(simp [*]; done)),H',⟨by have:=HK1.out; have:=HK2.out; omega⟩,⟨by (first|((with_reducible repeat (first|apply Kd.R_alloc|apply Kd.R_drewN|apply Kd.R_drew)); exact HO_5.out)|(rw [Ny281.out]; exact (Kd.R_putg (Kd.R_drewN HO_5.out _) _ _).1))⟩,⟨by (first|((repeat (first|(with_reducible first|exact HB.out|apply zaa|apply zab|apply zac)|exact HB.out)); done)|exact zaf (zab HB.out _) GB16.out)⟩⟩
             ·rw [if_neg c15] at H
              exact absurd H (by simp)
            ·rw [if_neg c14] at H
             exact absurd H (by simp)
           ·rw [if_neg c13] at H
            exact absurd H (by simp)
          ·rw [if_neg c12] at H
           exact absurd H (by simp)
         ·rw [if_neg c11] at H
          exact absurd H (by simp)
        ·rw [if_neg c9] at H
         have c9b0:decide (x8_2<(l1.length:Int))=false:=decide_eq_false c9
         clear c9
         have H':=Aside0.mk H
         clear H
         go_wp2
         go_loopg [7,9] k2 (fun kq v7 v9 w'=>∃ (x5_3:List Int) (x7_3:Int) (x9_3:Int),v7 = .int .i64 x7_3∧v9 = .int .i64 x9_3∧Aside0 (c1_times.l2 kq l0 l1 x5_3 x6_1 x7_3 x9_3=some r)∧Aside0 (kq≤k2)∧Aside0 (Kd.R (Kd.int .i64) 3 w' w.heap.size (fun k_=>(w.heap.size≤k_)) v273 x5_3)∧Aside0 (Below w.heap.size w w'))
         case atStart=>exact ⟨(x5_2),(x7_2),(wrap64 (x6_1+(l1.length:Int))),(by first|rfl|(simp; done)|(simp [*]; done)),(by first|rfl|(simp; done)|(simp [*]; done)),H',⟨Nat.le_refl _⟩,⟨by (with_reducible repeat (first|apply Kd.R_alloc|apply Kd.R_drewN|apply Kd.R_drew)); exact HO_5.out⟩,⟨by repeat (first|(with_reducible first|exact HB.out|apply zaa|apply zab|apply zac)|exact HB.out)⟩⟩
         case round =>
          clear H'
          try clear c1
          try clear p1
          try clear q1
          try clear c2
          try clear p2
          try clear q2
          try clear c4
          try clear c4b0
          try clear c4b1
          try clear c5
          try clear c5b0
          try clear c5b1
          try clear p6
          try clear c8
          try clear c8b0
          try clear c9
          try clear c9b0
          try clear c11
          try clear c11b0
          try clear c12
          try clear c12b0
          try clear c13
          try clear c13b0
          try clear c14
          try clear c14b0
          try clear c15
          try clear c15b0
          try clear p16
          try clear q16
          try clear p16
          try clear p2
          try clear p278
          try clear p279
          try clear p280
          try clear p6
          try clear q16
          try clear q278
          try clear q279
          try clear q280
          obtain ⟨x5_3,x7_3,x9_3,rfl,rfl,HA,HK3,HO_5,HB⟩:=hrel
          cases gk with
          | zero=>exact absurd HA.out (by simp [c1_times.l2])
          | succ k3 =>
           have H:=HA.out
           clear HA
           simp only [c1_times.l2] at H
           by_cases c20:x7_3>0
           ·rw [if_pos c20] at H
            have c20b0:decide (0<x7_3)=true:=decide_eq_true c20
            clear c20
            by_cases c21:0≤x9_3
            ·rw [if_pos c21] at H
             have c21b0:decide (0≤x9_3)=true:=decide_eq_true c21
             clear c21
             by_cases c22:x9_3<(x5_3.length:Int)
             ·rw [if_pos c22] at H
              have c22b0:decide (x9_3<(x5_3.length:Int))=true:=decide_eq_true c22
              clear c22
              obtain ⟨y283,hy283⟩:∃ y_:List Int,y_=(x5_3.set (x9_3:Int).toNat (Int.tmod (wrap64 (x7_3+(rd x5_3 x9_3))) 10000)):=⟨_,rfl⟩
              replace H:(c1_times.l2 k3 l0 l1 y283 x6_1 (wrap64 (Int.tdiv (wrap64 (x7_3+(rd x5_3 x9_3))) 10000)) (wrap64 (x9_3+1)))=some r:=by first|(rw [hy283]; with_reducible exact H)|(have H2_:=(Option.bind_some _ _).symm.trans H; rw [hy283]; with_reducible exact H2_)|(have H2_:=(Option.bind_some _ _).symm.trans H; with_reducible exact H2_)|with_reducible exact H|(rw [hy283]; exact H)|exact H
              have Ny283:=Aside0.mk hy283
              clear hy283
              have H':=Aside0.mk H
              clear H
              obtain ⟨Ao24,co24,eo24⟩:=Kd.R_slice HO_5.out
              subst eo24
              have p282:0≤(x9_3:Int):=of_decide_eq_true (by first|(with_reducible assumption)|assumption)
              have q282:x9_3<(x5_3.length:Int):=of_decide_eq_true (by first|(with_reducible assumption)|assumption)
              obtain ⟨ad282,e282,hx282_0⟩:=Kd.at_int (Kd.R_reads' HO_5.out).2.2 x9_3 p282 q282
              cases e282
              replace p282:=eq_true p282
              replace q282:=eq_true q282
              have p23:0≤(x9_3:Int):=of_decide_eq_true (by first|(with_reducible assumption)|assumption)
              have q23:(x9_3:Int)<((x5_3.length:Int):Int):=of_decide_eq_true (by first|(with_reducible assumption)|assumption)
              obtain ⟨go23,co23,eo23,gb23,gl23,cl23,HG23⟩:=Kd.R_form HO_5.out (by omega)
              (first|cases eo23|(injection eo23 with ea_ en_ ec_; (first|subst ea_|(injection ea_ with ea_; subst ea_)); subst ec_; clear en_))
              have GB23:=Aside0.mk gb23
              have GG23:=Aside0.mk HG23
              clear gb23 gl23 HG23
              (first|simp only [zbk] at hx282_0|skip)
              obtain ⟨hx23_0,hf23_0⟩:=Kd.R_celln 0 HO_5.out (x9_3:Int) p23 q23
              replace p23:=eq_true p23
              replace q23:=eq_true q23
              have HP25:=Kd.R_putg HO_5.out (x9_3:Int) (Int.tmod (wrap64 (x7_3+(rd x5_3 x9_3))) 10000)
              go_wp2_with (first|((with_reducible refine zbn (t:=3) (p:=73) rfl ?_); (try (rw [zcW wr]; generalize hq_:World.drewN wr _=wr; have n0_:=Aside0.mk (Kd.R_at hq_ HO_5.out); have n1_:=Aside0.mk (below_at hq_ HB.out); clear hq_ HO_5 HB; have HO_5:=n0_; have HB:=n1_; clear n0_ n1_; (try (have HP25:=Kd.R_putg HO_5.out (x9_3:Int) (Int.tmod (wrap64 (x7_3+(rd x5_3 x9_3))) 10000))))); refine zbd (t:=3) (p:=73) (v:=?vo_w26) (w1:=(wr.setCell ⟨go23,(x9_3:Int).toNat,none⟩ (.int .i64 (Int.tmod (wrap64 (x7_3+(rd x5_3 x9_3))) 10000)))) ?hg ?ho ?hn ?hr ?_; (case ho=>rfl); (case hg=>rfl); (case hn=>rfl); (case hr=>first|(go_simp; done)|(go_simp; rfl)); intro w26 hw; have hg:wr.grownBy w26 (some go23):=(by rw [hw]; exact HP25.2); have hp_:Kd.R (Kd.int .i64) 3 w26 w.heap.size (fun k_=>(w.heap.size≤k_)) (.slice (some ⟨go23,0,none⟩) x5_3.length co24) y283:=(by rw [hw,Ny283.out]; exact HP25.1); clear HP25; have n0_:=Aside0.mk (hp_); have n1_:=Aside0.mk ((by rw [hw]; exact zaf (HB.out) GB23.out:Below w.heap.size w w26)); clear HO_5; clear HB; have HO_5:=n0_; have HB:=n1_; clear n0_ n1_; clear hg hw hp_))
              go_roundg k3
              case measure=>have:=HK1.out; have:=HK2.out; have:=HK3.out; omega
              case rel=>exact ⟨(y283),(wrap64 (Int.tdiv (wrap64 (x7_3+(rd x5_3 x9_3))) 10000)),(wrap64 (x9_3+1)),(by first|rfl|(simp; done)|(simp [*]; done)),(by first|rfl|(simp; done)|(simp [*]; done)),H',⟨by have:=HK1.out; have:=HK2.out; have:=HK3.out; omega⟩,⟨by (with_reducible repeat (first|apply Kd.R_alloc|apply Kd.R_drewN|apply Kd.R_drew)); exact HO_5.out⟩,⟨by repeat (first|(with_reducible first|exact HB.out|apply zaa|apply zab|apply zac)|exact HB.out)⟩⟩
             ·rw [if_neg c22] at H
              exact absurd H (by simp)
            ·rw [if_neg c21] at H
             exact absurd H (by simp)
           ·rw [if_neg c20] at H
            have c20b0:decide (0<x7_3)=false:=decide_eq_false c20
            clear c20
            have H':=Aside0.mk H
            clear H
            go_wp2
            go_roundg k3
            case measure=>have:=HK1.out; have:=HK2.out; have:=HK3.out; omega
            case rel=>exact ⟨(x5_3),(wrap64 (x6_1+1)),(by first|rfl|(simp; done)|(simp [*]; done)),H',⟨by have:=HK1.out; have:=HK2.out; have:=HK3.out; omega⟩,⟨by (with_reducible repeat (first|apply Kd.R_alloc|apply Kd.R_drewN|apply Kd.R_drew)); exact HO_5.out⟩,⟨by repeat (first|(with_reducible first|exact HB.out|apply zaa|apply zab|apply zac)|exact HB.out)⟩⟩
     ·rw [if_neg c8] at H
      have c8b0:decide (x6_1<(l0.length:Int))=false:=decide_eq_false c8
      clear c8
      replace H:=Option.bind_eq_some_iff.mp H
      obtain ⟨t275,A270,H⟩:=H
      replace H:(some t275)=some r:=H
      have A27:=Aside0.mk A270
      clear A270
      obtain rfl:=Option.some.inj H
      obtain ⟨Ao28,co28,eo28⟩:=Kd.R_slice HO_5.out
      subst eo28
      go_wp2_with (first|(go_at_call 208; (with_reducible refine (c1_trim.calls k1 (fun k_=>some k_=(.slice Ao28 x5_1.length co28:Value).ownBlock) _ _ x5_1 t275 _ ?side1 A27.out).mono ?_); (case side1=>exact Kd.R_V (Kd.R_tight rfl (HO_5.out))); rintro e w29 ⟨v276,rfl,ho0,hb⟩; have n0_:=Aside0.mk (Kd.R_below (by (with_reducible repeat (first|apply Kd.R_alloc|apply Kd.R_drewN|apply Kd.R_drew)); exact HO_5.out) hb); have n1_:=Aside0.mk (Kd.V_lower (Kd.V_mono (ok':=fun k_=>(w.heap.size≤k_)) ho0 (fun k_ hk_=>Or.elim hk_ (fun hs_=>((HO_5.out).1 k_ hs_.symm)) (fun hn_=>(Nat.le_trans (zal (by repeat (first|(with_reducible first|exact HB.out|apply zaa|apply zab|apply zac)|exact HB.out))) hn_)))) (zal (by repeat (first|(with_reducible first|exact HB.out|apply zaa|apply zab|apply zac)|exact HB.out)))); have n2_:=Aside0.mk (zam (by repeat (first|(with_reducible first|exact HB.out|apply zaa|apply zab|apply zac)|exact HB.out)) hb); clear HO_5; clear HB; have HO_5:=n0_; have HO277:=n1_; have HB:=n2_; clear n0_ n1_ n2_; (try clear hb); (try clear hb2); (try clear hk); (try clear hi); (try clear ho0)))
      go_ret
      exact ⟨_,by first|rfl|(simp [zao,zan]<;>rfl)|(simp only [←hji3]; first|rfl|(simp [zao,zan]<;>rfl))|(simp [*,zao,zan]<;>rfl),by (with_reducible repeat (first|apply Kd.V_alloc|apply Kd.V_drewN|apply Kd.V_drew)); exact HO277.out,by repeat (first|(with_reducible first|exact HB.out|apply zaa|apply zab|apply zac)|exact HB.out)⟩
  ·rw [if_neg c5] at H
   exact absurd H (by simp)
 ·rw [if_neg c4] at H
  exact absurd H (by simp)
end Go.Proofs.ZP
end
