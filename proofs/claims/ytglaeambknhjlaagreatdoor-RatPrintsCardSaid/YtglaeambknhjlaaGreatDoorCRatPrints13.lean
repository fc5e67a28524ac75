/- Texts under the proof, joined by a program (prune.py): TRatPrints, LawRatPrints. -/
import Derived.Test.YtglaeambknhjlaaGreatDoorCRatPrints12
import Derived.Test.YtglaeambknhjlaaGreatDoorCRatPrints10
set_option linter.unusedVariables false
set_option linter.unusedSimpArgs false
set_option exponentiation.threshold 20001
set_option maxHeartbeats 8000000
set_option maxRecDepth 100000
section
namespace Go.Proofs.YtglaeambknhjlaaGreatDoor.Q
open Go.RowKit Go.Proofs.YtglaeambknhjlaaGreatDoorW.PrintWords Go.Proofs.YtglaeambknhjlaaGreatDoorW.PrintLast Go.Proofs.YtglaeambknhjlaaGreatDoorW.PrintMore
attribute [local go_sem] max2_int min2_int max_two min_two max_three min_three max_four min_four
set_option linter.unusedVariables false
set_option linter.unusedSimpArgs false
theorem cubitlaw02_RatPrints.callsT (k : Nat) (a0_0 : ByteArray) (a0_1 : ByteArray) (a1 : Int) (r : Bool) (w : World) (h : cubitlaw02_RatPrints.f k a0_0 a0_1 a1 = some r) (hr : r = true) :
  Calls Tryz.prog 5 #[.agg #[.string a0_0, .string a0_1], .int .i64 a1] w fun e w' => e = .returned (.bool r) ∧ Below w.heap.size w w' := by
 have hu23 := Tryz.underlying23
 have HB := Aside0.mk (Below.refl w.heap.size w)
 have H : ((rat_Print.f a0_0 a0_1).bind fun bt548 => ((cubitref02_Print.f k a0_0 a0_1).bind fun bt550 => ((rat_Digits.f a0_0 a0_1 a1).bind fun bt552 => ((cubitref02_Digits.f k a0_0 a0_1 a1).bind fun bt554 => (if bt548.1.toList = bt550.1.toList then (if bt548.2 = bt550.2 then (if bt552.1.toList = bt554.1.toList then (if bt552.2 = bt554.2 then ((cubitlaw02_awake.f).bind fun t556 => (some t556)) else (some false)) else (some false)) else (some false)) else (some false)))))) = some r := h
 clear h
 replace H := Option.bind_eq_some_iff.mp H
 obtain ⟨⟨t548, t549⟩, A30, H⟩ := H
 replace H : ((cubitref02_Print.f k a0_0 a0_1).bind fun bt550 => ((rat_Digits.f a0_0 a0_1 a1).bind fun bt552 => ((cubitref02_Digits.f k a0_0 a0_1 a1).bind fun bt554 => (if t548.toList = bt550.1.toList then (if t549 = bt550.2 then (if bt552.1.toList = bt554.1.toList then (if bt552.2 = bt554.2 then ((cubitlaw02_awake.f).bind fun t556 => (some t556)) else (some false)) else (some false)) else (some false)) else (some false))))) = some r := H
 have A3 := Aside0.mk A30
 clear A30
 replace H := Option.bind_eq_some_iff.mp H
 obtain ⟨⟨t550, t551⟩, A40, H⟩ := H
 replace H : ((rat_Digits.f a0_0 a0_1 a1).bind fun bt552 => ((cubitref02_Digits.f k a0_0 a0_1 a1).bind fun bt554 => (if t548.toList = t550.toList then (if t549 = t551 then (if bt552.1.toList = bt554.1.toList then (if bt552.2 = bt554.2 then ((cubitlaw02_awake.f).bind fun t556 => (some t556)) else (some false)) else (some false)) else (some false)) else (some false)))) = some r := H
 have A4 := Aside0.mk A40
 clear A40
 replace H := Option.bind_eq_some_iff.mp H
 obtain ⟨⟨t552, t553⟩, A50, H⟩ := H
 replace H : ((cubitref02_Digits.f k a0_0 a0_1 a1).bind fun bt554 => (if t548.toList = t550.toList then (if t549 = t551 then (if t552.toList = bt554.1.toList then (if t553 = bt554.2 then ((cubitlaw02_awake.f).bind fun t556 => (some t556)) else (some false)) else (some false)) else (some false)) else (some false))) = some r := H
 have A5 := Aside0.mk A50
 clear A50
 replace H := Option.bind_eq_some_iff.mp H
 obtain ⟨⟨t554, t555⟩, A60, H⟩ := H
 replace H : (if t548.toList = t550.toList then (if t549 = t551 then (if t552.toList = t554.toList then (if t553 = t555 then ((cubitlaw02_awake.f).bind fun t556 => (some t556)) else (some false)) else (some false)) else (some false)) else (some false)) = some r := H
 have A6 := Aside0.mk A60
 clear A60
 by_cases c7 : t548.toList = t550.toList
 ·rw [if_pos c7] at H
  have c7b0 : (t548.toList == t550.toList) = true := beq_iff_eq.mpr c7
  clear c7
  by_cases c8 : t549 = t551
  ·rw [if_pos c8] at H
   have c8b0 : (t549 == t551) = true := beq_iff_eq.mpr c8
   clear c8
   by_cases c9 : t552.toList = t554.toList
   ·rw [if_pos c9] at H
    have c9b0 : (t552.toList == t554.toList) = true := beq_iff_eq.mpr c9
    clear c9
    by_cases c10 : t553 = t555
    ·rw [if_pos c10] at H
     have c10b0 : (t553 == t555) = true := beq_iff_eq.mpr c10
     clear c10
     replace H := Option.bind_eq_some_iff.mp H
     obtain ⟨t556, A110, H⟩ := H
     replace H : (some t556) = some r := H
     have A11 := Aside0.mk A110
     clear A110
     obtain rfl := Option.some.inj H; clear hr
     go_enter Tryz.func5, Tryz.ntmps5
     go_wp2_with (first | ((with_reducible refine gate_dst (N := 2) rfl ?_); refine box_event ?hg (N := 2) ?hd (cs := #[.string a0_0, .string a0_1]) (t := 23) ?hr ?_; (case hd => rfl); (case hg => rfl); (case hr => first | (go_simp; done) | (go_simp; rfl)); intro gb547 hg w12 hbox hb; have n0_ := Aside0.mk (below_step (by repeat (first | (with_reducible first | exact HB.out | apply below_alloc | apply pw_below_drewN | apply below_drew1) | exact HB.out)) hb); have n1_ := Aside0.mk (hbox); have n2_ := Aside0.mk ((by rw [hg]; exact (below_size (by repeat (first | (with_reducible first | exact HB.out | apply below_alloc | apply pw_below_drewN | apply below_drew1) | exact HB.out))) : w.heap.size ≤ gb547)); have n3_ := Aside0.mk ((by rw [hg]; exact (below_size (by repeat (first | (with_reducible first | exact HB.out | apply below_alloc | apply pw_below_drewN | apply below_drew1) | exact HB.out))) : w.heap.size ≤ gb547)); clear HB; have HB := n0_; have BK547 := n1_; have GW547 := n2_; have GE547 := n3_; clear n0_ n1_ n2_ n3_; clear hb hbox hg; have hcz13_0 : w12.cell? ⟨gb547, 0, none⟩ = some (.string a0_0) := (blk_cell BK547.out 0).trans rfl; have hcz13_1 : w12.cell? ⟨gb547, 1, none⟩ = some (.string a0_1) := (blk_cell BK547.out 1).trans rfl; have hfz13_0 := blk_frozen BK547.out 0; have hfz13_1 := blk_frozen BK547.out 1) | ((with_reducible refine gate_callee (f := 29) rfl ?_); refine goesL_ (some 15) rfl rfl Tryz.func29 (by kernel_rfl) rfl #[.agg #[.string a0_0, .string a0_1]] rfl (by (try simp only [List.map_toArray, List.map_cons, List.map_nil]); first | done | rfl | (simp only [List.length_drop, List.length_take]; rfl)) ?_; (with_reducible refine (rat_Print.calls a0_0 a0_1 t548 t549 _ A3.out).mono ?_); rintro e w14 ⟨rfl, hb⟩; refine ⟨_, rfl, ?_⟩; have n0_ := Aside0.mk (blk_below (g := gb547) (o := .cells #[.string a0_0, .string a0_1] 23 (0, 0)) (by (with_reducible repeat (first | refine blk_drewN ?_ _ | refine blk_drew ?_ | refine blk_alloc ?_ _)); exact BK547.out) hb); have n1_ := Aside0.mk (below_step (by repeat (first | (with_reducible first | exact HB.out | apply below_alloc | apply pw_below_drewN | apply below_drew1 | refine below_set ?_ GE547.out) | exact HB.out)) hb); clear BK547; clear HB; have BK547 := n0_; have HB := n1_; clear n0_ n1_; (try clear hb); (try clear hb2); (try clear hk); (try clear hi); have hcz15_0 : w14.cell? ⟨gb547, 0, none⟩ = some (.string a0_0) := (blk_cell BK547.out 0).trans rfl; have hcz15_1 : w14.cell? ⟨gb547, 1, none⟩ = some (.string a0_1) := (blk_cell BK547.out 1).trans rfl; have hfz15_0 := blk_frozen BK547.out 0; have hfz15_1 := blk_frozen BK547.out 1) | ((with_reducible refine gate_callee (f := 30) rfl ?_); refine goesL_ (some 20) rfl rfl Tryz.func30 (by kernel_rfl) rfl #[.agg #[.string a0_0, .string a0_1]] rfl (by (try simp only [List.map_toArray, List.map_cons, List.map_nil]); first | done | rfl | (simp only [List.length_drop, List.length_take]; rfl)) ?_; (with_reducible refine (cubitref02_Print.calls k a0_0 a0_1 t550 t551 _ A4.out).mono ?_); rintro e w16 ⟨rfl, hb⟩; refine ⟨_, rfl, ?_⟩; have n0_ := Aside0.mk (blk_below (g := gb547) (o := .cells #[.string a0_0, .string a0_1] 23 (0, 0)) (by (with_reducible repeat (first | refine blk_drewN ?_ _ | refine blk_drew ?_ | refine blk_alloc ?_ _)); exact BK547.out) hb); have n1_ := Aside0.mk (below_step (by repeat (first | (with_reducible first | exact HB.out | apply below_alloc | apply pw_below_drewN | apply below_drew1 | refine below_set ?_ GE547.out) | exact HB.out)) hb); clear BK547; clear HB; have BK547 := n0_; have HB := n1_; clear n0_ n1_; (try clear hb); (try clear hb2); (try clear hk); (try clear hi); have hcz17_0 : w16.cell? ⟨gb547, 0, none⟩ = some (.string a0_0) := (blk_cell BK547.out 0).trans rfl; have hcz17_1 : w16.cell? ⟨gb547, 1, none⟩ = some (.string a0_1) := (blk_cell BK547.out 1).trans rfl; have hfz17_0 := blk_frozen BK547.out 0; have hfz17_1 := blk_frozen BK547.out 1) | ((with_reducible refine gate_callee (f := 31) rfl ?_); refine goesL_ (some 26) rfl rfl Tryz.func31 (by kernel_rfl) rfl #[.agg #[.string a0_0, .string a0_1], .int .i64 a1] rfl (by (try simp only [List.map_toArray, List.map_cons, List.map_nil]); first | done | rfl | (simp only [List.length_drop, List.length_take]; rfl)) ?_; (with_reducible refine (rat_Digits.calls a0_0 a0_1 a1 t552 t553 _ A5.out).mono ?_); rintro e w18 ⟨rfl, hb⟩; refine ⟨_, rfl, ?_⟩; have n0_ := Aside0.mk (blk_below (g := gb547) (o := .cells #[.string a0_0, .string a0_1] 23 (0, 0)) (by (with_reducible repeat (first | refine blk_drewN ?_ _ | refine blk_drew ?_ | refine blk_alloc ?_ _)); exact BK547.out) hb); have n1_ := Aside0.mk (below_step (by repeat (first | (with_reducible first | exact HB.out | apply below_alloc | apply pw_below_drewN | apply below_drew1 | refine below_set ?_ GE547.out) | exact HB.out)) hb); clear BK547; clear HB; have BK547 := n0_; have HB := n1_; clear n0_ n1_; (try clear hb); (try clear hb2); (try clear hk); (try clear hi); have hcz19_0 : w18.cell? ⟨gb547, 0, none⟩ = some (.string a0_0) := (blk_cell BK547.out 0).trans rfl; have hcz19_1 : w18.cell? ⟨gb547, 1, none⟩ = some (.string a0_1) := (blk_cell BK547.out 1).trans rfl; have hfz19_0 := blk_frozen BK547.out 0; have hfz19_1 := blk_frozen BK547.out 1) | ((with_reducible refine gate_callee (f := 24) rfl ?_); refine goesL_ (some 32) rfl rfl Tryz.func24 (by kernel_rfl) rfl #[.agg #[.string a0_0, .string a0_1], .int .i64 a1] rfl (by (try simp only [List.map_toArray, List.map_cons, List.map_nil]); first | done | rfl | (simp only [List.length_drop, List.length_take]; rfl)) ?_; (with_reducible refine (cubitref02_Digits.calls k a0_0 a0_1 a1 t554 t555 _ A6.out).mono ?_); rintro e w20 ⟨rfl, hb⟩; refine ⟨_, rfl, ?_⟩; have n0_ := Aside0.mk (blk_below (g := gb547) (o := .cells #[.string a0_0, .string a0_1] 23 (0, 0)) (by (with_reducible repeat (first | refine blk_drewN ?_ _ | refine blk_drew ?_ | refine blk_alloc ?_ _)); exact BK547.out) hb); have n1_ := Aside0.mk (below_step (by repeat (first | (with_reducible first | exact HB.out | apply below_alloc | apply pw_below_drewN | apply below_drew1 | refine below_set ?_ GE547.out) | exact HB.out)) hb); clear BK547; clear HB; have BK547 := n0_; have HB := n1_; clear n0_ n1_; (try clear hb); (try clear hb2); (try clear hk); (try clear hi)) | (go_at_call 32; (with_reducible refine (awakeT_calls  t556 _ A11.out).mono ?_); rintro e w21 ⟨rfl, hb⟩; have n0_ := Aside0.mk (blk_below (g := gb547) (o := .cells #[.string a0_0, .string a0_1] 23 (0, 0)) (by (with_reducible repeat (first | refine blk_drewN ?_ _ | refine blk_drew ?_ | refine blk_alloc ?_ _)); exact BK547.out) hb); have n1_ := Aside0.mk (below_step (by repeat (first | (with_reducible first | exact HB.out | apply below_alloc | apply pw_below_drewN | apply below_drew1 | refine below_set ?_ GE547.out) | exact HB.out)) hb); clear BK547; clear HB; have BK547 := n0_; have HB := n1_; clear n0_ n1_; (try clear hb); (try clear hb2); (try clear hk); (try clear hi)))
     go_ret
     exact ⟨by first | rfl | (simp [errW_none, errW_some] <;> rfl) | (simp [*, errW_none, errW_some] <;> rfl), by repeat (first | (with_reducible first | exact HB.out | apply below_alloc | apply pw_below_drewN | apply below_drew1 | refine below_set ?_ GE547.out) | exact HB.out)⟩
    ·rw [if_neg c10] at H
     exact absurd ((Option.some.inj H).trans hr) (by decide)
   ·rw [if_neg c9] at H
    exact absurd ((Option.some.inj H).trans hr) (by decide)
  ·rw [if_neg c8] at H
   exact absurd ((Option.some.inj H).trans hr) (by decide)
 ·rw [if_neg c7] at H
  exact absurd ((Option.some.inj H).trans hr) (by decide)
end Go.Proofs.YtglaeambknhjlaaGreatDoor.Q
end
section
set_option linter.unusedVariables false
namespace Go.Proofs.YtglaeambknhjlaaGreatDoor.Q
open Go.RowKit Go.Proofs.YtglaeambknhjlaaGreatDoorW.PrintWords Go.Proofs.YtglaeambknhjlaaGreatDoor.P
theorem rr_size {a b : ByteArray} {x : Rat} (h : RR a b x) : a.size ≤ 601 ∧ b.size ≤ 600 := by
 obtain ⟨m, n, h1, h2, h3, h4, h5, h6, h7, h8⟩ := (rr_iff a b x).1 h
 have sm := (T_size_le (k := 600) (by decide)).2 h3
 have sn := (T_size_le (k := 600) (by decide)).2 h4
 refine ⟨?_, by rw [h2]; exact sn⟩
 cases hs : (spl a).1
 ·rw [← spl_pos hs, h1]; omega
 ·rw [(spl_neg hs).1, h1, ByteArray.size_append]
  have : (⟨#[45]⟩ : ByteArray).size = 1 := rfl
  omega
theorem print_both (a b : ByteArray) : ∃ r, rat_Print.f a b = some r ∧ Ev (fun k => cubitref02_Print.f k a b) r := by
 have hr := right_ev a b
 cases hc : coreB (spl a).1 (spl a).2 b
 ·rw [hc] at hr
  refine ⟨(⟨#[]⟩, 3), ?_, ?_⟩
  ·unfold rat_Print.f; rw [rat_right_f, hc, Option.bind_some, if_neg (by decide)]
  ·unfold cubitref02_Print.f
   refine Ev.bind hr ?_
   exact Ev.congr (fun k => if_neg (by decide)) (Ev.now _)
 ·rw [hc] at hr
  obtain ⟨x, hx⟩ := (core_iff a b).1 hc
  have hz := rr_size hx
  have e4 : (⟨#[47]⟩ : ByteArray).size = 1 := rfl
  by_cases h1 : b.toList = ([49] : List UInt8)
  ·refine ⟨(a, 0), ?_, ?_⟩
   ·unfold rat_Print.f; rw [rat_right_f, hc, Option.bind_some, if_pos rfl, if_pos h1]
   ·unfold cubitref02_Print.f
    refine Ev.bind hr ?_
    exact Ev.congr (fun k => (if_pos rfl).trans (if_pos h1)) (Ev.now _)
  ·have e5 : (a ++ (⟨#[47]⟩ : ByteArray)).size = a.size + 1 := ByteArray.size_append
   refine ⟨((a ++ (⟨#[47]⟩ : ByteArray)) ++ b, 0), ?_, ?_⟩
   ·unfold rat_Print.f; rw [rat_right_f, hc, Option.bind_some, if_pos rfl, if_neg h1, if_pos (by omega), if_pos (by omega)]
   ·unfold cubitref02_Print.f
    refine Ev.bind hr ?_
    exact Ev.congr (fun k => (if_pos rfl).trans ((if_neg h1).trans ((if_pos (by omega)).trans (if_pos (by omega))))) (Ev.now _)
theorem ratPrints_ev (a b : ByteArray) (p : Int) (h0 : -9223372036854775808 ≤ p) (h1 : p < 9223372036854775808) : Ev (fun k => cubitlaw02_RatPrints.f k a b p) true := by
 obtain ⟨r, hr1, hr2⟩ := print_both a b
 obtain ⟨s, hs1, hs2⟩ := digits_ev a b p h0 h1
 unfold cubitlaw02_RatPrints.f
 rw [hr1, hs1, awake_f]
 simp only [Option.bind_some]
 refine Ev.bind hr2 ?_
 refine Ev.bind hs2 ?_
 refine Ev.congr (fun k => if_pos rfl) ?_
 refine Ev.congr (fun k => if_pos rfl) ?_
 refine Ev.congr (fun k => if_pos rfl) ?_
 refine Ev.congr (fun k => if_pos rfl) ?_
 exact Ev.now _
theorem RatPrints_any (a b : ByteArray) (p : Int) (W : World) (h0 : -9223372036854775808 ≤ p) (h1 : p ≤ 9223372036854775807) :
  Calls Tryz.prog 5 #[.agg #[.string a, .string b], .int .i64 p] W fun e W' => e = .returned (.bool true) ∧ Below W.heap.size W W' := by
 obtain ⟨k, hk⟩ := (ratPrints_ev a b p h0 (by omega)).rounds
 exact cubitlaw02_RatPrints.callsT k a b p true W hk rfl
end Go.Proofs.YtglaeambknhjlaaGreatDoor.Q
end
