/- Texts under the proof, joined by a program (prune.py): Q180, QAwake, Q188, TRatMakes, LawRatMakes. -/
import Derived.Test.YtglaeambknhjlaaGreatDoorCRatMakes09
import Derived.Test.YtglaeambknhjlaaGreatDoorCRatMakes11
import Derived.Test.YtglaeambknhjlaaGreatDoorCRatMakes08
import Derived.Test.YtglaeambknhjlaaGreatDoorCRatMakes10
import Derived.Test.YtglaeambknhjlaaGreatDoorCRatMakes06
set_option linter.unusedVariables false
set_option linter.unusedSimpArgs false
set_option exponentiation.threshold 20001
section
namespace Go.Proofs.YtglaeambknhjlaaGreatDoor.Q
open Go.RowKit Go.Proofs.YtglaeambknhjlaaGreatDoorW.PrintWords Go.Proofs.YtglaeambknhjlaaGreatDoorW.PrintLast Go.Proofs.YtglaeambknhjlaaGreatDoorW.PrintMore
attribute [local go_sem] max2_int min2_int max_two min_two max_three min_three max_four min_four
set_option linter.unusedVariables false
set_option linter.unusedSimpArgs false
attribute [local go_sem high] eqA23
noncomputable def cubitlaw02_awake.f  : Option (Bool) := (rat_Parse.f (⟨#[45, 49, 46, 50, 53, 48, 101, 45, 49]⟩ : ByteArray)).bind fun bt540 => ((rat_Digits.f (⟨#[50, 50]⟩ : ByteArray) (⟨#[55]⟩ : ByteArray) 4).bind fun bt545 => (if bt540.2.2.1 = 0 then (if bt540.2.2.2 = 0 then (if (bt540.1.toList == ([45, 49] : List UInt8) && (bt540.2.1.toList == ([56] : List UInt8))) = true then (if bt545.1.toList = ([51, 46, 49, 52, 50, 57] : List UInt8) then (some (bt545.2 == 0)) else (some false)) else (some false)) else (some false)) else (some false)))
set_option maxHeartbeats 8000000 in
set_option maxRecDepth 100000 in
theorem cubitlaw02_awake.calls  (r : Bool) (w : World) (h : cubitlaw02_awake.f  = some r) :
    Calls Tryz.prog 32 #[] w fun e w' => e = .returned (.bool r) ∧ Below w.heap.size w w' := by
  have hu23 := Tryz.underlying23
  have HB := Aside0.mk (Below.refl w.heap.size w)
  have H : ((rat_Parse.f (⟨#[45, 49, 46, 50, 53, 48, 101, 45, 49]⟩ : ByteArray)).bind fun bt540 => ((rat_Digits.f (⟨#[50, 50]⟩ : ByteArray) (⟨#[55]⟩ : ByteArray) 4).bind fun bt545 => (if bt540.2.2.1 = 0 then (if bt540.2.2.2 = 0 then (if (bt540.1.toList == ([45, 49] : List UInt8) && (bt540.2.1.toList == ([56] : List UInt8))) = true then (if bt545.1.toList = ([51, 46, 49, 52, 50, 57] : List UInt8) then (some (bt545.2 == 0)) else (some false)) else (some false)) else (some false)) else (some false)))) = some r := h
  clear h
  replace H := Option.bind_eq_some_iff.mp H
  obtain ⟨⟨t540, t541, t542, t543⟩, A10, H⟩ := H
  replace H : ((rat_Digits.f (⟨#[50, 50]⟩ : ByteArray) (⟨#[55]⟩ : ByteArray) 4).bind fun bt545 => (if t542 = 0 then (if t543 = 0 then (if (t540.toList == ([45, 49] : List UInt8) && (t541.toList == ([56] : List UInt8))) = true then (if bt545.1.toList = ([51, 46, 49, 52, 50, 57] : List UInt8) then (some (bt545.2 == 0)) else (some false)) else (some false)) else (some false)) else (some false))) = some r := H
  have A1 := Aside0.mk A10
  clear A10
  replace H := Option.bind_eq_some_iff.mp H
  obtain ⟨⟨t545, t546⟩, A20, H⟩ := H
  replace H : (if t542 = 0 then (if t543 = 0 then (if (t540.toList == ([45, 49] : List UInt8) && (t541.toList == ([56] : List UInt8))) = true then (if t545.toList = ([51, 46, 49, 52, 50, 57] : List UInt8) then (some (t546 == 0)) else (some false)) else (some false)) else (some false)) else (some false)) = some r := H
  have A2 := Aside0.mk A20
  clear A20
  by_cases c3 : t542 = 0
  · rw [if_pos c3] at H
    have c3b0 : (t542 == 0) = true := beq_iff_eq.mpr c3
    have c3b1 : (t542 != 0) = false := bne_eq_false_iff_eq.mpr c3
    clear c3
    by_cases c4 : t543 = 0
    · rw [if_pos c4] at H
      have c4b0 : (t543 == 0) = true := beq_iff_eq.mpr c4
      have c4b1 : (t543 != 0) = false := bne_eq_false_iff_eq.mpr c4
      clear c4
      by_cases c5 : (t540.toList == ([45, 49] : List UInt8) && (t541.toList == ([56] : List UInt8))) = true
      · rw [if_pos c5] at H
        have c5b0 : (t540.toList == ([45, 49] : List UInt8) && (t541.toList == ([56] : List UInt8))) = true := c5
        (try (have c5b1 : decide (t540.toList = ([45, 49] : List UInt8) && (t541.toList == ([56] : List UInt8))) = true := by simpa using c5))
        (try (have c5b2 : (t540.toList == ([45, 49] : List UInt8) && (t541.toList == ([56] : List UInt8))) = true := by simpa using c5))
        clear c5
        by_cases c6 : t545.toList = ([51, 46, 49, 52, 50, 57] : List UInt8)
        · rw [if_pos c6] at H
          have c6b0 : (t545.toList == ([51, 46, 49, 52, 50, 57] : List UInt8)) = true := beq_iff_eq.mpr c6
          have c6b1 : (t545.toList != ([51, 46, 49, 52, 50, 57] : List UInt8)) = false := bne_eq_false_iff_eq.mpr c6
          clear c6
          obtain rfl := Option.some.inj H
          go_enter Tryz.func32, Tryz.ntmps32
          go_wp2_with (first | ((with_reducible refine gate_callee (f := 59) rfl ?_); refine goesL_ (some 7) rfl rfl Tryz.func59 (by kernel_rfl) rfl #[.string (⟨#[45, 49, 46, 50, 53, 48, 101, 45, 49]⟩ : ByteArray)] rfl (by (try simp only [List.map_toArray, List.map_cons, List.map_nil]); first | done | rfl | (simp only [List.length_drop, List.length_take]; rfl)) ?_; (with_reducible refine (rat_Parse.calls (⟨#[45, 49, 46, 50, 53, 48, 101, 45, 49]⟩ : ByteArray) t540 t541 t542 t543 _ A1.out).mono ?_); rintro e w7 ⟨rfl, hb⟩; refine ⟨_, rfl, ?_⟩; have n0_ := Aside0.mk (below_step (by repeat (first | (with_reducible first | exact HB.out | apply below_alloc | apply pw_below_drewN | apply below_drew1) | exact HB.out)) hb); clear HB; have HB := n0_; clear n0_; (try clear hb); (try clear hb2); (try clear hk); (try clear hi)) | ((with_reducible refine gate_dst (N := 1) rfl ?_); refine box_event ?hg (N := 1) ?hd (cs := #[.string (⟨#[]⟩ : ByteArray), .string (⟨#[]⟩ : ByteArray)]) (t := 23) ?hr ?_; (case hd => rfl); (case hg => rfl); (case hr => first | (go_simp; done) | (go_simp; rfl)); intro gb544 hg w8 hbox hb; have n0_ := Aside0.mk (below_step (by repeat (first | (with_reducible first | exact HB.out | apply below_alloc | apply pw_below_drewN | apply below_drew1) | exact HB.out)) hb); have n1_ := Aside0.mk (hbox); have n2_ := Aside0.mk ((by rw [hg]; exact (below_size (by repeat (first | (with_reducible first | exact HB.out | apply below_alloc | apply pw_below_drewN | apply below_drew1) | exact HB.out))) : w.heap.size ≤ gb544)); have n3_ := Aside0.mk ((by rw [hg]; exact (below_size (by repeat (first | (with_reducible first | exact HB.out | apply below_alloc | apply pw_below_drewN | apply below_drew1) | exact HB.out))) : w.heap.size ≤ gb544)); clear HB; have HB := n0_; have BK544 := n1_; have GW544 := n2_; have GE544 := n3_; clear n0_ n1_ n2_ n3_; clear hb hbox hg; have hcz9_0 : w8.cell? ⟨gb544, 0, none⟩ = some (.string (⟨#[]⟩ : ByteArray)) := (blk_cell BK544.out 0).trans rfl; have hcz9_1 : w8.cell? ⟨gb544, 1, none⟩ = some (.string (⟨#[]⟩ : ByteArray)) := (blk_cell BK544.out 1).trans rfl; have hfz9_0 := blk_frozen BK544.out 0; have hfz9_1 := blk_frozen BK544.out 1) | ((with_reducible refine gate_callee (f := 31) rfl ?_); refine goesL_ (some 13) rfl rfl Tryz.func31 (by kernel_rfl) rfl #[.agg #[.string (⟨#[50, 50]⟩ : ByteArray), .string (⟨#[55]⟩ : ByteArray)], .int .i64 4] rfl (by (try simp only [List.map_toArray, List.map_cons, List.map_nil]); first | done | rfl | (simp only [List.length_drop, List.length_take]; rfl)) ?_; (with_reducible refine (rat_Digits.calls (⟨#[50, 50]⟩ : ByteArray) (⟨#[55]⟩ : ByteArray) 4 t545 t546 _ A2.out).mono ?_); rintro e w10 ⟨rfl, hb⟩; refine ⟨_, rfl, ?_⟩; have n0_ := Aside0.mk (blk_below (g := gb544) (o := .cells #[.string t540, .string t541] 23 (0, 0)) (by (with_reducible repeat (first | refine blk_drewN ?_ _ | refine blk_drew ?_ | refine blk_alloc ?_ _)); refine blk_put (cs := #[.string t540, .string (⟨#[]⟩ : ByteArray)]) ?_ 1 _ rfl; (with_reducible repeat (first | refine blk_drewN ?_ _ | refine blk_drew ?_ | refine blk_alloc ?_ _)); refine blk_put (cs := #[.string (⟨#[]⟩ : ByteArray), .string (⟨#[]⟩ : ByteArray)]) ?_ 0 _ rfl; (with_reducible repeat (first | refine blk_drewN ?_ _ | refine blk_drew ?_ | refine blk_alloc ?_ _)); exact BK544.out) hb); have n1_ := Aside0.mk (below_step (by repeat (first | (with_reducible first | exact HB.out | apply below_alloc | apply pw_below_drewN | apply below_drew1 | refine below_set ?_ GE544.out) | exact HB.out)) hb); clear BK544; clear HB; have BK544 := n0_; have HB := n1_; clear n0_ n1_; (try clear hb); (try clear hb2); (try clear hk); (try clear hi); have hcz11_0 : w10.cell? ⟨gb544, 0, none⟩ = some (.string t540) := (blk_cell BK544.out 0).trans rfl; have hcz11_1 : w10.cell? ⟨gb544, 1, none⟩ = some (.string t541) := (blk_cell BK544.out 1).trans rfl; have hfz11_0 := blk_frozen BK544.out 0; have hfz11_1 := blk_frozen BK544.out 1))
          go_ret
          exact ⟨by first | rfl | (simp [errW_none, errW_some] <;> rfl) | (simp [*, errW_none, errW_some] <;> rfl), by repeat (first | (with_reducible first | exact HB.out | apply below_alloc | apply pw_below_drewN | apply below_drew1 | refine below_set ?_ GE544.out) | exact HB.out)⟩
        · rw [if_neg c6] at H
          have c6b0 : (t545.toList == ([51, 46, 49, 52, 50, 57] : List UInt8)) = false := beq_eq_false_iff_ne.mpr c6
          have c6b1 : (t545.toList != ([51, 46, 49, 52, 50, 57] : List UInt8)) = true := bne_iff_ne.mpr c6
          obtain rfl := Option.some.inj H
          go_enter Tryz.func32, Tryz.ntmps32
          go_wp2_with (first | ((with_reducible refine gate_callee (f := 59) rfl ?_); refine goesL_ (some 7) rfl rfl Tryz.func59 (by kernel_rfl) rfl #[.string (⟨#[45, 49, 46, 50, 53, 48, 101, 45, 49]⟩ : ByteArray)] rfl (by (try simp only [List.map_toArray, List.map_cons, List.map_nil]); first | done | rfl | (simp only [List.length_drop, List.length_take]; rfl)) ?_; (with_reducible refine (rat_Parse.calls (⟨#[45, 49, 46, 50, 53, 48, 101, 45, 49]⟩ : ByteArray) t540 t541 t542 t543 _ A1.out).mono ?_); rintro e w12 ⟨rfl, hb⟩; refine ⟨_, rfl, ?_⟩; have n0_ := Aside0.mk (below_step (by repeat (first | (with_reducible first | exact HB.out | apply below_alloc | apply pw_below_drewN | apply below_drew1) | exact HB.out)) hb); clear HB; have HB := n0_; clear n0_; (try clear hb); (try clear hb2); (try clear hk); (try clear hi)) | ((with_reducible refine gate_dst (N := 1) rfl ?_); refine box_event ?hg (N := 1) ?hd (cs := #[.string (⟨#[]⟩ : ByteArray), .string (⟨#[]⟩ : ByteArray)]) (t := 23) ?hr ?_; (case hd => rfl); (case hg => rfl); (case hr => first | (go_simp; done) | (go_simp; rfl)); intro gb544 hg w13 hbox hb; have n0_ := Aside0.mk (below_step (by repeat (first | (with_reducible first | exact HB.out | apply below_alloc | apply pw_below_drewN | apply below_drew1) | exact HB.out)) hb); have n1_ := Aside0.mk (hbox); have n2_ := Aside0.mk ((by rw [hg]; exact (below_size (by repeat (first | (with_reducible first | exact HB.out | apply below_alloc | apply pw_below_drewN | apply below_drew1) | exact HB.out))) : w.heap.size ≤ gb544)); have n3_ := Aside0.mk ((by rw [hg]; exact (below_size (by repeat (first | (with_reducible first | exact HB.out | apply below_alloc | apply pw_below_drewN | apply below_drew1) | exact HB.out))) : w.heap.size ≤ gb544)); clear HB; have HB := n0_; have BK544 := n1_; have GW544 := n2_; have GE544 := n3_; clear n0_ n1_ n2_ n3_; clear hb hbox hg; have hcz14_0 : w13.cell? ⟨gb544, 0, none⟩ = some (.string (⟨#[]⟩ : ByteArray)) := (blk_cell BK544.out 0).trans rfl; have hcz14_1 : w13.cell? ⟨gb544, 1, none⟩ = some (.string (⟨#[]⟩ : ByteArray)) := (blk_cell BK544.out 1).trans rfl; have hfz14_0 := blk_frozen BK544.out 0; have hfz14_1 := blk_frozen BK544.out 1) | ((with_reducible refine gate_callee (f := 31) rfl ?_); refine goesL_ (some 13) rfl rfl Tryz.func31 (by kernel_rfl) rfl #[.agg #[.string (⟨#[50, 50]⟩ : ByteArray), .string (⟨#[55]⟩ : ByteArray)], .int .i64 4] rfl (by (try simp only [List.map_toArray, List.map_cons, List.map_nil]); first | done | rfl | (simp only [List.length_drop, List.length_take]; rfl)) ?_; (with_reducible refine (rat_Digits.calls (⟨#[50, 50]⟩ : ByteArray) (⟨#[55]⟩ : ByteArray) 4 t545 t546 _ A2.out).mono ?_); rintro e w15 ⟨rfl, hb⟩; refine ⟨_, rfl, ?_⟩; have n0_ := Aside0.mk (blk_below (g := gb544) (o := .cells #[.string t540, .string t541] 23 (0, 0)) (by (with_reducible repeat (first | refine blk_drewN ?_ _ | refine blk_drew ?_ | refine blk_alloc ?_ _)); refine blk_put (cs := #[.string t540, .string (⟨#[]⟩ : ByteArray)]) ?_ 1 _ rfl; (with_reducible repeat (first | refine blk_drewN ?_ _ | refine blk_drew ?_ | refine blk_alloc ?_ _)); refine blk_put (cs := #[.string (⟨#[]⟩ : ByteArray), .string (⟨#[]⟩ : ByteArray)]) ?_ 0 _ rfl; (with_reducible repeat (first | refine blk_drewN ?_ _ | refine blk_drew ?_ | refine blk_alloc ?_ _)); exact BK544.out) hb); have n1_ := Aside0.mk (below_step (by repeat (first | (with_reducible first | exact HB.out | apply below_alloc | apply pw_below_drewN | apply below_drew1 | refine below_set ?_ GE544.out) | exact HB.out)) hb); clear BK544; clear HB; have BK544 := n0_; have HB := n1_; clear n0_ n1_; (try clear hb); (try clear hb2); (try clear hk); (try clear hi); have hcz16_0 : w15.cell? ⟨gb544, 0, none⟩ = some (.string t540) := (blk_cell BK544.out 0).trans rfl; have hcz16_1 : w15.cell? ⟨gb544, 1, none⟩ = some (.string t541) := (blk_cell BK544.out 1).trans rfl; have hfz16_0 := blk_frozen BK544.out 0; have hfz16_1 := blk_frozen BK544.out 1))
          go_ret
          exact ⟨by first | rfl | (simp [errW_none, errW_some] <;> rfl) | (simp [*, errW_none, errW_some] <;> rfl), by repeat (first | (with_reducible first | exact HB.out | apply below_alloc | apply pw_below_drewN | apply below_drew1 | refine below_set ?_ GE544.out) | exact HB.out)⟩
      · rw [if_neg c5] at H
        have c5b0 : (t540.toList == ([45, 49] : List UInt8) && (t541.toList == ([56] : List UInt8))) = false := by simpa using c5
        (try (have c5b1 : decide (t540.toList = ([45, 49] : List UInt8) && (t541.toList == ([56] : List UInt8))) = false := by simpa using c5))
        (try (have c5b2 : (t540.toList == ([45, 49] : List UInt8) && (t541.toList == ([56] : List UInt8))) = false := by simpa using c5))
        (try (have c5b3 : ¬ (t540.toList = ([45, 49] : List UInt8) && (t541.toList == ([56] : List UInt8))) := by simpa using c5))
        clear c5
        obtain rfl := Option.some.inj H
        go_enter Tryz.func32, Tryz.ntmps32
        go_wp2_with (first | ((with_reducible refine gate_callee (f := 59) rfl ?_); refine goesL_ (some 7) rfl rfl Tryz.func59 (by kernel_rfl) rfl #[.string (⟨#[45, 49, 46, 50, 53, 48, 101, 45, 49]⟩ : ByteArray)] rfl (by (try simp only [List.map_toArray, List.map_cons, List.map_nil]); first | done | rfl | (simp only [List.length_drop, List.length_take]; rfl)) ?_; (with_reducible refine (rat_Parse.calls (⟨#[45, 49, 46, 50, 53, 48, 101, 45, 49]⟩ : ByteArray) t540 t541 t542 t543 _ A1.out).mono ?_); rintro e w17 ⟨rfl, hb⟩; refine ⟨_, rfl, ?_⟩; have n0_ := Aside0.mk (below_step (by repeat (first | (with_reducible first | exact HB.out | apply below_alloc | apply pw_below_drewN | apply below_drew1) | exact HB.out)) hb); clear HB; have HB := n0_; clear n0_; (try clear hb); (try clear hb2); (try clear hk); (try clear hi)) | ((with_reducible refine gate_dst (N := 1) rfl ?_); refine box_event ?hg (N := 1) ?hd (cs := #[.string (⟨#[]⟩ : ByteArray), .string (⟨#[]⟩ : ByteArray)]) (t := 23) ?hr ?_; (case hd => rfl); (case hg => rfl); (case hr => first | (go_simp; done) | (go_simp; rfl)); intro gb544 hg w18 hbox hb; have n0_ := Aside0.mk (below_step (by repeat (first | (with_reducible first | exact HB.out | apply below_alloc | apply pw_below_drewN | apply below_drew1) | exact HB.out)) hb); have n1_ := Aside0.mk (hbox); have n2_ := Aside0.mk ((by rw [hg]; exact (below_size (by repeat (first | (with_reducible first | exact HB.out | apply below_alloc | apply pw_below_drewN | apply below_drew1) | exact HB.out))) : w.heap.size ≤ gb544)); have n3_ := Aside0.mk ((by rw [hg]; exact (below_size (by repeat (first | (with_reducible first | exact HB.out | apply below_alloc | apply pw_below_drewN | apply below_drew1) | exact HB.out))) : w.heap.size ≤ gb544)); clear HB; have HB := n0_; have BK544 := n1_; have GW544 := n2_; have GE544 := n3_; clear n0_ n1_ n2_ n3_; clear hb hbox hg; have hcz19_0 : w18.cell? ⟨gb544, 0, none⟩ = some (.string (⟨#[]⟩ : ByteArray)) := (blk_cell BK544.out 0).trans rfl; have hcz19_1 : w18.cell? ⟨gb544, 1, none⟩ = some (.string (⟨#[]⟩ : ByteArray)) := (blk_cell BK544.out 1).trans rfl; have hfz19_0 := blk_frozen BK544.out 0; have hfz19_1 := blk_frozen BK544.out 1) | ((with_reducible refine gate_callee (f := 31) rfl ?_); refine goesL_ (some 13) rfl rfl Tryz.func31 (by kernel_rfl) rfl #[.agg #[.string (⟨#[50, 50]⟩ : ByteArray), .string (⟨#[55]⟩ : ByteArray)], .int .i64 4] rfl (by (try simp only [List.map_toArray, List.map_cons, List.map_nil]); first | done | rfl | (simp only [List.length_drop, List.length_take]; rfl)) ?_; (with_reducible refine (rat_Digits.calls (⟨#[50, 50]⟩ : ByteArray) (⟨#[55]⟩ : ByteArray) 4 t545 t546 _ A2.out).mono ?_); rintro e w20 ⟨rfl, hb⟩; refine ⟨_, rfl, ?_⟩; have n0_ := Aside0.mk (blk_below (g := gb544) (o := .cells #[.string t540, .string t541] 23 (0, 0)) (by (with_reducible repeat (first | refine blk_drewN ?_ _ | refine blk_drew ?_ | refine blk_alloc ?_ _)); refine blk_put (cs := #[.string t540, .string (⟨#[]⟩ : ByteArray)]) ?_ 1 _ rfl; (with_reducible repeat (first | refine blk_drewN ?_ _ | refine blk_drew ?_ | refine blk_alloc ?_ _)); refine blk_put (cs := #[.string (⟨#[]⟩ : ByteArray), .string (⟨#[]⟩ : ByteArray)]) ?_ 0 _ rfl; (with_reducible repeat (first | refine blk_drewN ?_ _ | refine blk_drew ?_ | refine blk_alloc ?_ _)); exact BK544.out) hb); have n1_ := Aside0.mk (below_step (by repeat (first | (with_reducible first | exact HB.out | apply below_alloc | apply pw_below_drewN | apply below_drew1 | refine below_set ?_ GE544.out) | exact HB.out)) hb); clear BK544; clear HB; have BK544 := n0_; have HB := n1_; clear n0_ n1_; (try clear hb); (try clear hb2); (try clear hk); (try clear hi); have hcz21_0 : w20.cell? ⟨gb544, 0, none⟩ = some (.string t540) := (blk_cell BK544.out 0).trans rfl; have hcz21_1 : w20.cell? ⟨gb544, 1, none⟩ = some (.string t541) := (blk_cell BK544.out 1).trans rfl; have hfz21_0 := blk_frozen BK544.out 0; have hfz21_1 := blk_frozen BK544.out 1))
        go_ret
        exact ⟨by first | rfl | (simp [errW_none, errW_some] <;> rfl) | (simp [*, errW_none, errW_some] <;> rfl), by repeat (first | (with_reducible first | exact HB.out | apply below_alloc | apply pw_below_drewN | apply below_drew1 | refine below_set ?_ GE544.out) | exact HB.out)⟩
    · rw [if_neg c4] at H
      have c4b0 : (t543 == 0) = false := beq_eq_false_iff_ne.mpr c4
      have c4b1 : (t543 != 0) = true := bne_iff_ne.mpr c4
      obtain rfl := Option.some.inj H
      go_enter Tryz.func32, Tryz.ntmps32
      go_wp2_with (first | ((with_reducible refine gate_callee (f := 59) rfl ?_); refine goesL_ (some 7) rfl rfl Tryz.func59 (by kernel_rfl) rfl #[.string (⟨#[45, 49, 46, 50, 53, 48, 101, 45, 49]⟩ : ByteArray)] rfl (by (try simp only [List.map_toArray, List.map_cons, List.map_nil]); first | done | rfl | (simp only [List.length_drop, List.length_take]; rfl)) ?_; (with_reducible refine (rat_Parse.calls (⟨#[45, 49, 46, 50, 53, 48, 101, 45, 49]⟩ : ByteArray) t540 t541 t542 t543 _ A1.out).mono ?_); rintro e w22 ⟨rfl, hb⟩; refine ⟨_, rfl, ?_⟩; have n0_ := Aside0.mk (below_step (by repeat (first | (with_reducible first | exact HB.out | apply below_alloc | apply pw_below_drewN | apply below_drew1) | exact HB.out)) hb); clear HB; have HB := n0_; clear n0_; (try clear hb); (try clear hb2); (try clear hk); (try clear hi)) | ((with_reducible refine gate_dst (N := 1) rfl ?_); refine box_event ?hg (N := 1) ?hd (cs := #[.string (⟨#[]⟩ : ByteArray), .string (⟨#[]⟩ : ByteArray)]) (t := 23) ?hr ?_; (case hd => rfl); (case hg => rfl); (case hr => first | (go_simp; done) | (go_simp; rfl)); intro gb544 hg w23 hbox hb; have n0_ := Aside0.mk (below_step (by repeat (first | (with_reducible first | exact HB.out | apply below_alloc | apply pw_below_drewN | apply below_drew1) | exact HB.out)) hb); have n1_ := Aside0.mk (hbox); have n2_ := Aside0.mk ((by rw [hg]; exact (below_size (by repeat (first | (with_reducible first | exact HB.out | apply below_alloc | apply pw_below_drewN | apply below_drew1) | exact HB.out))) : w.heap.size ≤ gb544)); have n3_ := Aside0.mk ((by rw [hg]; exact (below_size (by repeat (first | (with_reducible first | exact HB.out | apply below_alloc | apply pw_below_drewN | apply below_drew1) | exact HB.out))) : w.heap.size ≤ gb544)); clear HB; have HB := n0_; have BK544 := n1_; have GW544 := n2_; have GE544 := n3_; clear n0_ n1_ n2_ n3_; clear hb hbox hg; have hcz24_0 : w23.cell? ⟨gb544, 0, none⟩ = some (.string (⟨#[]⟩ : ByteArray)) := (blk_cell BK544.out 0).trans rfl; have hcz24_1 : w23.cell? ⟨gb544, 1, none⟩ = some (.string (⟨#[]⟩ : ByteArray)) := (blk_cell BK544.out 1).trans rfl; have hfz24_0 := blk_frozen BK544.out 0; have hfz24_1 := blk_frozen BK544.out 1) | ((with_reducible refine gate_callee (f := 31) rfl ?_); refine goesL_ (some 13) rfl rfl Tryz.func31 (by kernel_rfl) rfl #[.agg #[.string (⟨#[50, 50]⟩ : ByteArray), .string (⟨#[55]⟩ : ByteArray)], .int .i64 4] rfl (by (try simp only [List.map_toArray, List.map_cons, List.map_nil]); first | done | rfl | (simp only [List.length_drop, List.length_take]; rfl)) ?_; (with_reducible refine (rat_Digits.calls (⟨#[50, 50]⟩ : ByteArray) (⟨#[55]⟩ : ByteArray) 4 t545 t546 _ A2.out).mono ?_); rintro e w25 ⟨rfl, hb⟩; refine ⟨_, rfl, ?_⟩; have n0_ := Aside0.mk (blk_below (g := gb544) (o := .cells #[.string t540, .string t541] 23 (0, 0)) (by (with_reducible repeat (first | refine blk_drewN ?_ _ | refine blk_drew ?_ | refine blk_alloc ?_ _)); refine blk_put (cs := #[.string t540, .string (⟨#[]⟩ : ByteArray)]) ?_ 1 _ rfl; (with_reducible repeat (first | refine blk_drewN ?_ _ | refine blk_drew ?_ | refine blk_alloc ?_ _)); refine blk_put (cs := #[.string (⟨#[]⟩ : ByteArray), .string (⟨#[]⟩ : ByteArray)]) ?_ 0 _ rfl; (with_reducible repeat (first | refine blk_drewN ?_ _ | refine blk_drew ?_ | refine blk_alloc ?_ _)); exact BK544.out) hb); have n1_ := Aside0.mk (below_step (by repeat (first | (with_reducible first | exact HB.out | apply below_alloc | apply pw_below_drewN | apply below_drew1 | refine below_set ?_ GE544.out) | exact HB.out)) hb); clear BK544; clear HB; have BK544 := n0_; have HB := n1_; clear n0_ n1_; (try clear hb); (try clear hb2); (try clear hk); (try clear hi)))
      go_ret
      exact ⟨by first | rfl | (simp [errW_none, errW_some] <;> rfl) | (simp [*, errW_none, errW_some] <;> rfl), by repeat (first | (with_reducible first | exact HB.out | apply below_alloc | apply pw_below_drewN | apply below_drew1 | refine below_set ?_ GE544.out) | exact HB.out)⟩
  · rw [if_neg c3] at H
    have c3b0 : (t542 == 0) = false := beq_eq_false_iff_ne.mpr c3
    have c3b1 : (t542 != 0) = true := bne_iff_ne.mpr c3
    obtain rfl := Option.some.inj H
    go_enter Tryz.func32, Tryz.ntmps32
    go_wp2_with (first | ((with_reducible refine gate_callee (f := 59) rfl ?_); refine goesL_ (some 7) rfl rfl Tryz.func59 (by kernel_rfl) rfl #[.string (⟨#[45, 49, 46, 50, 53, 48, 101, 45, 49]⟩ : ByteArray)] rfl (by (try simp only [List.map_toArray, List.map_cons, List.map_nil]); first | done | rfl | (simp only [List.length_drop, List.length_take]; rfl)) ?_; (with_reducible refine (rat_Parse.calls (⟨#[45, 49, 46, 50, 53, 48, 101, 45, 49]⟩ : ByteArray) t540 t541 t542 t543 _ A1.out).mono ?_); rintro e w26 ⟨rfl, hb⟩; refine ⟨_, rfl, ?_⟩; have n0_ := Aside0.mk (below_step (by repeat (first | (with_reducible first | exact HB.out | apply below_alloc | apply pw_below_drewN | apply below_drew1) | exact HB.out)) hb); clear HB; have HB := n0_; clear n0_; (try clear hb); (try clear hb2); (try clear hk); (try clear hi)) | ((with_reducible refine gate_dst (N := 1) rfl ?_); refine box_event ?hg (N := 1) ?hd (cs := #[.string (⟨#[]⟩ : ByteArray), .string (⟨#[]⟩ : ByteArray)]) (t := 23) ?hr ?_; (case hd => rfl); (case hg => rfl); (case hr => first | (go_simp; done) | (go_simp; rfl)); intro gb544 hg w27 hbox hb; have n0_ := Aside0.mk (below_step (by repeat (first | (with_reducible first | exact HB.out | apply below_alloc | apply pw_below_drewN | apply below_drew1) | exact HB.out)) hb); have n1_ := Aside0.mk (hbox); have n2_ := Aside0.mk ((by rw [hg]; exact (below_size (by repeat (first | (with_reducible first | exact HB.out | apply below_alloc | apply pw_below_drewN | apply below_drew1) | exact HB.out))) : w.heap.size ≤ gb544)); have n3_ := Aside0.mk ((by rw [hg]; exact (below_size (by repeat (first | (with_reducible first | exact HB.out | apply below_alloc | apply pw_below_drewN | apply below_drew1) | exact HB.out))) : w.heap.size ≤ gb544)); clear HB; have HB := n0_; have BK544 := n1_; have GW544 := n2_; have GE544 := n3_; clear n0_ n1_ n2_ n3_; clear hb hbox hg; have hcz28_0 : w27.cell? ⟨gb544, 0, none⟩ = some (.string (⟨#[]⟩ : ByteArray)) := (blk_cell BK544.out 0).trans rfl; have hcz28_1 : w27.cell? ⟨gb544, 1, none⟩ = some (.string (⟨#[]⟩ : ByteArray)) := (blk_cell BK544.out 1).trans rfl; have hfz28_0 := blk_frozen BK544.out 0; have hfz28_1 := blk_frozen BK544.out 1) | ((with_reducible refine gate_callee (f := 31) rfl ?_); refine goesL_ (some 13) rfl rfl Tryz.func31 (by kernel_rfl) rfl #[.agg #[.string (⟨#[50, 50]⟩ : ByteArray), .string (⟨#[55]⟩ : ByteArray)], .int .i64 4] rfl (by (try simp only [List.map_toArray, List.map_cons, List.map_nil]); first | done | rfl | (simp only [List.length_drop, List.length_take]; rfl)) ?_; (with_reducible refine (rat_Digits.calls (⟨#[50, 50]⟩ : ByteArray) (⟨#[55]⟩ : ByteArray) 4 t545 t546 _ A2.out).mono ?_); rintro e w29 ⟨rfl, hb⟩; refine ⟨_, rfl, ?_⟩; have n0_ := Aside0.mk (blk_below (g := gb544) (o := .cells #[.string t540, .string t541] 23 (0, 0)) (by (with_reducible repeat (first | refine blk_drewN ?_ _ | refine blk_drew ?_ | refine blk_alloc ?_ _)); refine blk_put (cs := #[.string t540, .string (⟨#[]⟩ : ByteArray)]) ?_ 1 _ rfl; (with_reducible repeat (first | refine blk_drewN ?_ _ | refine blk_drew ?_ | refine blk_alloc ?_ _)); refine blk_put (cs := #[.string (⟨#[]⟩ : ByteArray), .string (⟨#[]⟩ : ByteArray)]) ?_ 0 _ rfl; (with_reducible repeat (first | refine blk_drewN ?_ _ | refine blk_drew ?_ | refine blk_alloc ?_ _)); exact BK544.out) hb); have n1_ := Aside0.mk (below_step (by repeat (first | (with_reducible first | exact HB.out | apply below_alloc | apply pw_below_drewN | apply below_drew1 | refine below_set ?_ GE544.out) | exact HB.out)) hb); clear BK544; clear HB; have BK544 := n0_; have HB := n1_; clear n0_ n1_; (try clear hb); (try clear hb2); (try clear hk); (try clear hi)))
    go_ret
    exact ⟨by first | rfl | (simp [errW_none, errW_some] <;> rfl) | (simp [*, errW_none, errW_some] <;> rfl), by repeat (first | (with_reducible first | exact HB.out | apply below_alloc | apply pw_below_drewN | apply below_drew1 | refine below_set ?_ GE544.out) | exact HB.out)⟩
end Go.Proofs.YtglaeambknhjlaaGreatDoor.Q
end
section
set_option linter.unusedVariables false
namespace Go.Proofs.YtglaeambknhjlaaGreatDoor.Q
open Go.RowKit Go.Proofs.YtglaeambknhjlaaGreatDoorW.PrintWords Go.Proofs.YtglaeambknhjlaaGreatDoor.P
theorem small600 {n : Nat} (h : n < 10 ^ 20) : n < 10 ^ 600 := Nat.lt_of_lt_of_le h (Nat.pow_le_pow_right (by decide) (by decide))
theorem small_size {n : Nat} (h : n < 10 ^ 20) : ¬ 600 < (T n).size := Nat.not_lt.2 ((T_size_le (by decide)).2 (small600 h))
theorem T_lit (s : ByteArray) (n : Nat) (hd : dval s.data.toList = n) (h : P.Can s.data.toList) : T n = s := by
  subst hd; exact (can_T h).symm
theorem can_of {l : List UInt8} (h : (decide (0 < l.length) && l.all (fun c => decide (48 ≤ c.toNat) && decide (c.toNat ≤ 57)) && (decide (l.head? ≠ some 48) || decide (l.length = 1))) = true) : P.Can l := by
  simp only [Bool.and_eq_true, Bool.or_eq_true, decide_eq_true_eq, List.all_eq_true] at h
  exact ⟨h.1.1, fun c hc => h.1.2 c hc, fun e => h.2.elim (fun k => absurd e k) id⟩
theorem T8 : T 8 = ⟨#[56]⟩ := T_lit _ _ rfl (can_of (by decide))
theorem T22 : T 22 = ⟨#[50, 50]⟩ := T_lit _ _ rfl (can_of (by decide))
theorem T7 : T 7 = ⟨#[55]⟩ := T_lit _ _ rfl (can_of (by decide))
theorem T31429 : T 31429 = ⟨#[51, 49, 52, 50, 57]⟩ := T_lit _ _ rfl (can_of (by decide))
def awS : ByteArray := ⟨#[45, 49, 46, 50, 53, 48, 101, 45, 49]⟩
def awF : Fm := ⟨9, false, true, ⟨#[49, 50, 53, 48]⟩, 3, ⟨#[49]⟩, true, ⟨#[]⟩, false, 0⟩
theorem aw_form : formF awS = awF := by kernel_rfl
theorem aw_val : signed awF (((1250 : Int) : Rat) * tenR (-4)) = Rat.divInt (-1) 8 := by kernel_rfl
theorem aw_dec : decF awF = some (((1250 : Int) : Rat) * tenR (-4)) := by
  have e1 : expE awF = some (-1) := by kernel_rfl
  have e2 : dval awF.m.data.toList = 1250 := by kernel_rfl
  unfold decF
  rw [e1, e2, Option.bind_some]
  refine scale_yes ?_
  rintro (h | h | h)
  · exact small_size (by decide) h
  · exact absurd h.2 (by decide)
  · exact absurd h.1 (by decide)
theorem aw_parse : rat_Parse.f ⟨#[45, 49, 46, 50, 53, 48, 101, 45, 49]⟩ = some (⟨#[45, 49]⟩, ⟨#[56]⟩, 0, 0) := by
  have hn : (Rat.divInt (-1) 8).num = -1 := by decide
  have hd : (Rat.divInt (-1) 8).den = 8 := by decide
  have ht : toldR (Rat.divInt (-1) 8) = (⟨#[45, 49]⟩, ⟨#[56]⟩, 0) := by
    unfold toldR
    have hs : Sm (Rat.divInt (-1) 8) := by
      unfold Sm
      rw [hn, hd]
      exact ⟨small600 (by decide), small600 (by decide)⟩
    rw [if_pos hs, hn, hd, T8, wtext_neg (by decide)]
    show ((⟨#[45]⟩ : ByteArray) ++ T 1, (⟨#[56]⟩ : ByteArray), (0 : Int)) = _
    rw [T_one]; rfl
  show some (parseF awS) = _
  refine congrArg some ?_
  unfold parseF
  have h1 : ¬ 65536 < awS.size := by decide
  have h2 : awF.end_ awS = true := by kernel_rfl
  have h3 : awF.fraction = false := rfl
  rw [if_neg h1, aw_form, h2, if_neg (by decide), h3, if_neg (by decide), aw_dec]
  show ((toldR (signed awF _)).1, (toldR (signed awF _)).2.1, (toldR (signed awF _)).2.2, (0 : Int)) = _
  rw [aw_val, ht]
theorem aw_digits : rat_Digits.f ⟨#[50, 50]⟩ ⟨#[55]⟩ 4 = some (⟨#[51, 46, 49, 52, 50, 57]⟩, 0) := by
  have hn : (Rat.divInt 22 7).num = 22 := by decide
  have hd : (Rat.divInt 22 7).den = 7 := by decide
  have hr : RR ⟨#[50, 50]⟩ ⟨#[55]⟩ (Rat.divInt 22 7) := by
    refine ⟨?_, ?_, ?_, ?_⟩
    · rw [hn, wtext_pos (by decide)]; exact T22.symm
    · rw [hd]; exact T7.symm
    · rw [hn]; exact small600 (by decide)
    · rw [hd]; exact small600 (by decide)
  have he : ∃ x, RR ⟨#[50, 50]⟩ ⟨#[55]⟩ x := ⟨_, hr⟩
  have ev : evenR (Rat.divInt 22 7 * tenR 4) = 31429 := by kernel_rfl
  unfold rat_Digits.f
  rw [dif_pos he, ← RR.uniq hr he.choose_spec]
  unfold digR
  rw [if_neg (by decide), ev, if_neg (small_size (by decide))]
  refine congrArg some ?_
  have : dgt 31429 4 = ⟨#[51, 46, 49, 52, 50, 57]⟩ := by
    unfold dgt
    rw [if_neg (by decide)]
    show ptT (padT (T 31429) 4) 4 = _
    rw [T31429]; kernel_rfl
  show (dgt 31429 4, (0 : Int)) = _
  rw [this]
theorem awake_f : cubitlaw02_awake.f = some true := by
  unfold cubitlaw02_awake.f
  rw [aw_parse, Option.bind_some, aw_digits, Option.bind_some]
  have e1 : (((⟨#[45, 49]⟩ : ByteArray).toList == ([45, 49] : List UInt8)) && ((⟨#[56]⟩ : ByteArray).toList == ([56] : List UInt8))) = true := by
    rw [ba_toList, ba_toList]; rfl
  have e2 : (⟨#[51, 46, 49, 52, 50, 57]⟩ : ByteArray).toList = ([51, 46, 49, 52, 50, 57] : List UInt8) := by rw [ba_toList]
  rw [if_pos rfl, if_pos rfl, if_pos e1, if_pos e2]; rfl
end Go.Proofs.YtglaeambknhjlaaGreatDoor.Q
end
section
namespace Go.Proofs.YtglaeambknhjlaaGreatDoor.Q
open Go.RowKit Go.Proofs.YtglaeambknhjlaaGreatDoorW.PrintWords Go.Proofs.YtglaeambknhjlaaGreatDoorW.PrintLast Go.Proofs.YtglaeambknhjlaaGreatDoorW.PrintMore
attribute [local go_sem] max2_int min2_int max_two min_two max_three min_three max_four min_four
set_option linter.unusedVariables false
set_option linter.unusedSimpArgs false
attribute [local go_sem high] eqA23
noncomputable def cubitlaw02_RatMakes.f (k : Nat) (a0_0 : ByteArray) (a0_1 : ByteArray) (a1 : ByteArray) (a2 : ByteArray) (a3 : Int) : Option (Bool) := (rat_New.f a1 a2).bind fun bt583 => ((cubitref02_New.f k a1 a2).bind fun bt587 => ((rat_Right.f a0_0 a0_1).bind fun t591 => ((cubitref02_Right.f k a0_0 a0_1).bind fun t592 => (if (t591 == t592) = true then (if (bt583.1.toList == bt587.1.toList && (bt583.2.1.toList == bt587.2.1.toList)) = true then (if bt583.2.2 = bt587.2.2 then ((rat_Of.f a3).bind fun bt593 => ((cubitref02_Of.f k a3).bind fun bt595 => (if (bt593.1.toList == bt595.1.toList && (bt593.2.toList == bt595.2.toList)) = true then ((cubitlaw02_awake.f).bind fun t597 => (some t597)) else (some false)))) else (some false)) else (some false)) else (some false)))))
noncomputable def cubitlaw02_RatMakes.T3 : Bool × List (List Nat × List Nat) := (true, [([], []), ([0], [0]), ([], []), ([2, 1], [2]), ([1, 3], [1, 3]), ([4, 3], [4]), ([5], [5]), ([5], [5]), ([6, 7, 5], [5, 6, 7]), ([5, 8], [5, 8]), ([9, 5], [9]), ([10], [10]), ([10], [10]), ([11, 12, 10], [10, 11, 12]), ([10, 13], [10, 13]), ([14, 10], [14]), ([15], [15]), ([16, 15, 15], [15, 16]), ([15], [15]), ([18, 17, 15], [15, 18]), ([17, 19, 15], [15, 17, 19]), ([15, 20], [15, 20]), ([21, 19], [21]), ([22, 22], [22]), ([22, 23], [22, 23]), ([24, 23, 0, 1, 2, 3, 4, 5, 6, 7, 8, 9, 10, 11, 12, 13, 14, 15, 16, 17, 18, 19, 20, 21, 22, 23, 24], [24])])
noncomputable def cubitlaw02_RatMakes.B3 : List Nat := [0, 1, 0, 7, 15, 31, 63, 63, 255, 511, 1023, 2047, 2047, 8191, 16383, 32767, 65535, 131071, 65535, 524287, 1048575, 2097151, 4194303, 8388607, 16777215, 33554431]
theorem cubitlaw02_RatMakes.tab3 : rtab .any (opsOf Tryz.f6 3) = cubitlaw02_RatMakes.T3 := by kernel_rfl
theorem cubitlaw02_RatMakes.bits3 : waitsOk cubitlaw02_RatMakes.T3.2 cubitlaw02_RatMakes.B3 = true := by kernel_rfl
end Go.Proofs.YtglaeambknhjlaaGreatDoor.Q
end
section
namespace Go.Proofs.YtglaeambknhjlaaGreatDoor.Q
open Go.RowKit Go.Proofs.YtglaeambknhjlaaGreatDoorW.PrintWords Go.Proofs.YtglaeambknhjlaaGreatDoorW.PrintLast Go.Proofs.YtglaeambknhjlaaGreatDoorW.PrintMore
attribute [local go_sem] max2_int min2_int max_two min_two max_three min_three max_four min_four
set_option linter.unusedVariables false
set_option linter.unusedSimpArgs false
attribute [local go_sem high] eqA23
set_option maxHeartbeats 8000000 in
set_option maxRecDepth 100000 in
theorem cubitlaw02_RatMakes.callsT (k : Nat) (a0_0 : ByteArray) (a0_1 : ByteArray) (a1 : ByteArray) (a2 : ByteArray) (a3 : Int) (r : Bool) (w : World) (h : cubitlaw02_RatMakes.f k a0_0 a0_1 a1 a2 a3 = some r) (hr : r = true) :
    Calls Tryz.prog 6 #[.agg #[.string a0_0, .string a0_1], .string a1, .string a2, .int .i64 a3] w fun e w' => e = .returned (.bool r) ∧ Below w.heap.size w w' := by
  have hu23 := Tryz.underlying23
  have HB := Aside0.mk (Below.refl w.heap.size w)
  have H : ((rat_New.f a1 a2).bind fun bt583 => ((cubitref02_New.f k a1 a2).bind fun bt587 => ((rat_Right.f a0_0 a0_1).bind fun t591 => ((cubitref02_Right.f k a0_0 a0_1).bind fun t592 => (if (t591 == t592) = true then (if (bt583.1.toList == bt587.1.toList && (bt583.2.1.toList == bt587.2.1.toList)) = true then (if bt583.2.2 = bt587.2.2 then ((rat_Of.f a3).bind fun bt593 => ((cubitref02_Of.f k a3).bind fun bt595 => (if (bt593.1.toList == bt595.1.toList && (bt593.2.toList == bt595.2.toList)) = true then ((cubitlaw02_awake.f).bind fun t597 => (some t597)) else (some false)))) else (some false)) else (some false)) else (some false)))))) = some r := h
  clear h
  replace H := Option.bind_eq_some_iff.mp H
  obtain ⟨⟨t583, t584, t585⟩, A50, H⟩ := H
  replace H : ((cubitref02_New.f k a1 a2).bind fun bt587 => ((rat_Right.f a0_0 a0_1).bind fun t591 => ((cubitref02_Right.f k a0_0 a0_1).bind fun t592 => (if (t591 == t592) = true then (if (t583.toList == bt587.1.toList && (t584.toList == bt587.2.1.toList)) = true then (if t585 = bt587.2.2 then ((rat_Of.f a3).bind fun bt593 => ((cubitref02_Of.f k a3).bind fun bt595 => (if (bt593.1.toList == bt595.1.toList && (bt593.2.toList == bt595.2.toList)) = true then ((cubitlaw02_awake.f).bind fun t597 => (some t597)) else (some false)))) else (some false)) else (some false)) else (some false))))) = some r := H
  have A5 := Aside0.mk A50
  clear A50
  replace H := Option.bind_eq_some_iff.mp H
  obtain ⟨⟨t587, t588, t589⟩, A60, H⟩ := H
  replace H : ((rat_Right.f a0_0 a0_1).bind fun t591 => ((cubitref02_Right.f k a0_0 a0_1).bind fun t592 => (if (t591 == t592) = true then (if (t583.toList == t587.toList && (t584.toList == t588.toList)) = true then (if t585 = t589 then ((rat_Of.f a3).bind fun bt593 => ((cubitref02_Of.f k a3).bind fun bt595 => (if (bt593.1.toList == bt595.1.toList && (bt593.2.toList == bt595.2.toList)) = true then ((cubitlaw02_awake.f).bind fun t597 => (some t597)) else (some false)))) else (some false)) else (some false)) else (some false)))) = some r := H
  have A6 := Aside0.mk A60
  clear A60
  replace H := Option.bind_eq_some_iff.mp H
  obtain ⟨t591, A70, H⟩ := H
  replace H : ((cubitref02_Right.f k a0_0 a0_1).bind fun t592 => (if (t591 == t592) = true then (if (t583.toList == t587.toList && (t584.toList == t588.toList)) = true then (if t585 = t589 then ((rat_Of.f a3).bind fun bt593 => ((cubitref02_Of.f k a3).bind fun bt595 => (if (bt593.1.toList == bt595.1.toList && (bt593.2.toList == bt595.2.toList)) = true then ((cubitlaw02_awake.f).bind fun t597 => (some t597)) else (some false)))) else (some false)) else (some false)) else (some false))) = some r := H
  have A7 := Aside0.mk A70
  clear A70
  replace H := Option.bind_eq_some_iff.mp H
  obtain ⟨t592, A80, H⟩ := H
  replace H : (if (t591 == t592) = true then (if (t583.toList == t587.toList && (t584.toList == t588.toList)) = true then (if t585 = t589 then ((rat_Of.f a3).bind fun bt593 => ((cubitref02_Of.f k a3).bind fun bt595 => (if (bt593.1.toList == bt595.1.toList && (bt593.2.toList == bt595.2.toList)) = true then ((cubitlaw02_awake.f).bind fun t597 => (some t597)) else (some false)))) else (some false)) else (some false)) else (some false)) = some r := H
  have A8 := Aside0.mk A80
  clear A80
  by_cases c9 : (t591 == t592) = true
  · rw [if_pos c9] at H
    have c9b0 : (t591 == t592) = true := c9
    (try (have c9b1 : decide (t591 = t592) = true := by simpa using c9))
    (try (have c9b2 : (t591 == t592) = true := by simpa using c9))
    clear c9
    by_cases c10 : (t583.toList == t587.toList && (t584.toList == t588.toList)) = true
    · rw [if_pos c10] at H
      have c10b0 : (t583.toList == t587.toList && (t584.toList == t588.toList)) = true := c10
      (try (have c10b1 : decide (t583.toList = t587.toList && (t584.toList == t588.toList)) = true := by simpa using c10))
      (try (have c10b2 : (t583.toList == t587.toList && (t584.toList == t588.toList)) = true := by simpa using c10))
      clear c10
      by_cases c11 : t585 = t589
      · rw [if_pos c11] at H
        have c11b0 : (t585 == t589) = true := beq_iff_eq.mpr c11
        have c11b1 : (t585 != t589) = false := bne_eq_false_iff_eq.mpr c11
        clear c11
        replace H := Option.bind_eq_some_iff.mp H
        obtain ⟨⟨t593, t594⟩, A120, H⟩ := H
        replace H : ((cubitref02_Of.f k a3).bind fun bt595 => (if (t593.toList == bt595.1.toList && (t594.toList == bt595.2.toList)) = true then ((cubitlaw02_awake.f).bind fun t597 => (some t597)) else (some false))) = some r := H
        have A12 := Aside0.mk A120
        clear A120
        replace H := Option.bind_eq_some_iff.mp H
        obtain ⟨⟨t595, t596⟩, A130, H⟩ := H
        replace H : (if (t593.toList == t595.toList && (t594.toList == t596.toList)) = true then ((cubitlaw02_awake.f).bind fun t597 => (some t597)) else (some false)) = some r := H
        have A13 := Aside0.mk A130
        clear A130
        by_cases c14 : (t593.toList == t595.toList && (t594.toList == t596.toList)) = true
        · rw [if_pos c14] at H
          have c14b0 : (t593.toList == t595.toList && (t594.toList == t596.toList)) = true := c14
          (try (have c14b1 : decide (t593.toList = t595.toList && (t594.toList == t596.toList)) = true := by simpa using c14))
          (try (have c14b2 : (t593.toList == t595.toList && (t594.toList == t596.toList)) = true := by simpa using c14))
          clear c14
          replace H := Option.bind_eq_some_iff.mp H
          obtain ⟨t597, A150, H⟩ := H
          replace H : (some t597) = some r := H
          have A15 := Aside0.mk A150
          clear A150
          obtain rfl := Option.some.inj H; clear hr
          go_enter Tryz.func6, Tryz.ntmps6
          try go_wp2_with (first | ((with_reducible refine gate_dst (N := 4) rfl ?_); refine box_event ?hg (N := 4) ?hd (cs := #[.string a0_0, .string a0_1]) (t := 23) ?hr ?_; (case hd => rfl); (case hg => rfl); (case hr => first | (go_simp; done) | (go_simp; rfl)); intro gb582 hg w16 hbox hb; have n0_ := Aside0.mk (below_step (by repeat (first | (with_reducible first | exact HB.out | apply below_alloc | apply pw_below_drewN | apply below_drew1) | exact HB.out)) hb); have n1_ := Aside0.mk (hbox); have n2_ := Aside0.mk ((by rw [hg]; exact (below_size (by repeat (first | (with_reducible first | exact HB.out | apply below_alloc | apply pw_below_drewN | apply below_drew1) | exact HB.out))) : w.heap.size ≤ gb582)); have n3_ := Aside0.mk ((by rw [hg]; exact (below_size (by repeat (first | (with_reducible first | exact HB.out | apply below_alloc | apply pw_below_drewN | apply below_drew1) | exact HB.out))) : w.heap.size ≤ gb582)); clear HB; have HB := n0_; have BK582 := n1_; have GW582 := n2_; have GE582 := n3_; clear n0_ n1_ n2_ n3_; clear hb hbox hg) | ((with_reducible refine gate_callee (f := 33) rfl ?_); refine goesL_ (some 16) rfl rfl Tryz.func33 (by kernel_rfl) rfl #[.string a1, .string a2] rfl (by (try simp only [List.map_toArray, List.map_cons, List.map_nil]); first | done | rfl | (simp only [List.length_drop, List.length_take]; rfl)) ?_; (with_reducible refine (rat_New.calls a1 a2 t583 t584 t585 _ A5.out).mono ?_); rintro e w17 ⟨rfl, hb⟩; refine ⟨_, rfl, ?_⟩; have n0_ := Aside0.mk (blk_below (g := gb582) (o := .cells #[.string a0_0, .string a0_1] 23 (0, 0)) (by (with_reducible repeat (first | refine blk_drewN ?_ _ | refine blk_drew ?_ | refine blk_alloc ?_ _)); exact BK582.out) hb); have n1_ := Aside0.mk (below_step (by repeat (first | (with_reducible first | exact HB.out | apply below_alloc | apply pw_below_drewN | apply below_drew1 | refine below_set ?_ GE582.out) | exact HB.out)) hb); clear BK582; clear HB; have BK582 := n0_; have HB := n1_; clear n0_ n1_; (try clear hb); (try clear hb2); (try clear hk); (try clear hi)) | ((with_reducible refine gate_dst (N := 9) rfl ?_); refine box_event ?hg (N := 9) ?hd (cs := #[.string (⟨#[]⟩ : ByteArray), .string (⟨#[]⟩ : ByteArray)]) (t := 23) ?hr ?_; (case hd => rfl); (case hg => rfl); (case hr => first | (go_simp; done) | (go_simp; rfl)); intro gb586 hg w18 hbox hb; have n0_ := Aside0.mk (blk_below (g := gb582) (o := .cells #[.string a0_0, .string a0_1] 23 (0, 0)) (by (with_reducible repeat (first | refine blk_drewN ?_ _ | refine blk_drew ?_ | refine blk_alloc ?_ _)); exact BK582.out) hb); have n1_ := Aside0.mk (below_step (by repeat (first | (with_reducible first | exact HB.out | apply below_alloc | apply pw_below_drewN | apply below_drew1 | refine below_set ?_ GE582.out) | exact HB.out)) hb); have n2_ := Aside0.mk (hbox); have n3_ := Aside0.mk ((by rw [hg]; exact (below_size (by repeat (first | (with_reducible first | exact HB.out | apply below_alloc | apply pw_below_drewN | apply below_drew1 | refine below_set ?_ GE582.out) | exact HB.out))) : w.heap.size ≤ gb586)); have n4_ := Aside0.mk ((by rw [hg]; exact (below_size (by repeat (first | (with_reducible first | exact HB.out | apply below_alloc | apply pw_below_drewN | apply below_drew1 | refine below_set ?_ GE582.out) | exact HB.out))) : w.heap.size ≤ gb586)); have n5_ := Aside0.mk ((by rw [hg]; exact Nat.ne_of_lt (blk_lt (g := gb582) (o := .cells #[.string a0_0, .string a0_1] 23 (0, 0)) (by (with_reducible repeat (first | refine blk_drewN ?_ _ | refine blk_drew ?_ | refine blk_alloc ?_ _)); exact BK582.out)) : gb582 ≠ gb586)); have n6_ := Aside0.mk ((by rw [hg]; exact Nat.ne_of_gt (blk_lt (g := gb582) (o := .cells #[.string a0_0, .string a0_1] 23 (0, 0)) (by (with_reducible repeat (first | refine blk_drewN ?_ _ | refine blk_drew ?_ | refine blk_alloc ?_ _)); exact BK582.out)) : gb586 ≠ gb582)); clear BK582; clear HB; have BK582 := n0_; have HB := n1_; have BK586 := n2_; have GW586 := n3_; have GE586 := n4_; have NB582_586 := n5_; have NB586_582 := n6_; clear n0_ n1_ n2_ n3_ n4_ n5_ n6_; clear hb hbox hg; have hnb19 := NB586_582.out; have hnc19 := NB582_586.out; have hcz20_0 : w18.cell? ⟨gb586, 0, none⟩ = some (.string (⟨#[]⟩ : ByteArray)) := (blk_cell BK586.out 0).trans rfl; have hcz20_1 : w18.cell? ⟨gb586, 1, none⟩ = some (.string (⟨#[]⟩ : ByteArray)) := (blk_cell BK586.out 1).trans rfl; have hfz20_0 := blk_frozen BK586.out 0; have hfz20_1 := blk_frozen BK586.out 1) | ((with_reducible refine gate_callee (f := 34) rfl ?_); refine goesL_ (some 22) rfl rfl Tryz.func34 (by kernel_rfl) rfl #[.string a1, .string a2] rfl (by (try simp only [List.map_toArray, List.map_cons, List.map_nil]); first | done | rfl | (simp only [List.length_drop, List.length_take]; rfl)) ?_; (with_reducible refine (cubitref02_New.calls k a1 a2 t587 t588 t589 _ A6.out).mono ?_); rintro e w21 ⟨rfl, hb⟩; refine ⟨_, rfl, ?_⟩; have n0_ := Aside0.mk (blk_below (g := gb582) (o := .cells #[.string a0_0, .string a0_1] 23 (0, 0)) (by (with_reducible repeat (first | refine blk_drewN ?_ _ | refine blk_drew ?_ | refine blk_alloc ?_ _)); refine blk_far ?_ NB582_586.out _; (with_reducible repeat (first | refine blk_drewN ?_ _ | refine blk_drew ?_ | refine blk_alloc ?_ _)); refine blk_far ?_ NB582_586.out _; (with_reducible repeat (first | refine blk_drewN ?_ _ | refine blk_drew ?_ | refine blk_alloc ?_ _)); exact BK582.out) hb); have n1_ := Aside0.mk (blk_below (g := gb586) (o := .cells #[.string t583, .string t584] 23 (0, 0)) (by (with_reducible repeat (first | refine blk_drewN ?_ _ | refine blk_drew ?_ | refine blk_alloc ?_ _)); refine blk_put (cs := #[.string t583, .string (⟨#[]⟩ : ByteArray)]) ?_ 1 _ rfl; (with_reducible repeat (first | refine blk_drewN ?_ _ | refine blk_drew ?_ | refine blk_alloc ?_ _)); refine blk_put (cs := #[.string (⟨#[]⟩ : ByteArray), .string (⟨#[]⟩ : ByteArray)]) ?_ 0 _ rfl; (with_reducible repeat (first | refine blk_drewN ?_ _ | refine blk_drew ?_ | refine blk_alloc ?_ _)); exact BK586.out) hb); have n2_ := Aside0.mk (below_step (by repeat (first | (with_reducible first | exact HB.out | apply below_alloc | apply pw_below_drewN | apply below_drew1 | refine below_set ?_ GE582.out | refine below_set ?_ GE586.out) | exact HB.out)) hb); clear BK582; clear BK586; clear HB; have BK582 := n0_; have BK586 := n1_; have HB := n2_; clear n0_ n1_ n2_; (try clear hb); (try clear hb2); (try clear hk); (try clear hi)) | ((with_reducible refine gate_dst (N := 11) rfl ?_); refine box_event ?hg (N := 11) ?hd (cs := #[.string (⟨#[]⟩ : ByteArray), .string (⟨#[]⟩ : ByteArray)]) (t := 23) ?hr ?_; (case hd => rfl); (case hg => rfl); (case hr => first | (go_simp; done) | (go_simp; rfl)); intro gb590 hg w22 hbox hb; have n0_ := Aside0.mk (blk_below (g := gb582) (o := .cells #[.string a0_0, .string a0_1] 23 (0, 0)) (by (with_reducible repeat (first | refine blk_drewN ?_ _ | refine blk_drew ?_ | refine blk_alloc ?_ _)); exact BK582.out) hb); have n1_ := Aside0.mk (blk_below (g := gb586) (o := .cells #[.string t583, .string t584] 23 (0, 0)) (by (with_reducible repeat (first | refine blk_drewN ?_ _ | refine blk_drew ?_ | refine blk_alloc ?_ _)); exact BK586.out) hb); have n2_ := Aside0.mk (below_step (by repeat (first | (with_reducible first | exact HB.out | apply below_alloc | apply pw_below_drewN | apply below_drew1 | refine below_set ?_ GE582.out | refine below_set ?_ GE586.out) | exact HB.out)) hb); have n3_ := Aside0.mk (hbox); have n4_ := Aside0.mk ((by rw [hg]; exact (below_size (by repeat (first | (with_reducible first | exact HB.out | apply below_alloc | apply pw_below_drewN | apply below_drew1 | refine below_set ?_ GE582.out | refine below_set ?_ GE586.out) | exact HB.out))) : w.heap.size ≤ gb590)); have n5_ := Aside0.mk ((by rw [hg]; exact (below_size (by repeat (first | (with_reducible first | exact HB.out | apply below_alloc | apply pw_below_drewN | apply below_drew1 | refine below_set ?_ GE582.out | refine below_set ?_ GE586.out) | exact HB.out))) : w.heap.size ≤ gb590)); have n6_ := Aside0.mk ((by rw [hg]; exact Nat.ne_of_lt (blk_lt (g := gb582) (o := .cells #[.string a0_0, .string a0_1] 23 (0, 0)) (by (with_reducible repeat (first | refine blk_drewN ?_ _ | refine blk_drew ?_ | refine blk_alloc ?_ _)); exact BK582.out)) : gb582 ≠ gb590)); have n7_ := Aside0.mk ((by rw [hg]; exact Nat.ne_of_gt (blk_lt (g := gb582) (o := .cells #[.string a0_0, .string a0_1] 23 (0, 0)) (by (with_reducible repeat (first | refine blk_drewN ?_ _ | refine blk_drew ?_ | refine blk_alloc ?_ _)); exact BK582.out)) : gb590 ≠ gb582)); have n8_ := Aside0.mk ((by rw [hg]; exact Nat.ne_of_lt (blk_lt (g := gb586) (o := .cells #[.string t583, .string t584] 23 (0, 0)) (by (with_reducible repeat (first | refine blk_drewN ?_ _ | refine blk_drew ?_ | refine blk_alloc ?_ _)); exact BK586.out)) : gb586 ≠ gb590)); have n9_ := Aside0.mk ((by rw [hg]; exact Nat.ne_of_gt (blk_lt (g := gb586) (o := .cells #[.string t583, .string t584] 23 (0, 0)) (by (with_reducible repeat (first | refine blk_drewN ?_ _ | refine blk_drew ?_ | refine blk_alloc ?_ _)); exact BK586.out)) : gb590 ≠ gb586)); clear BK582; clear BK586; clear HB; have BK582 := n0_; have BK586 := n1_; have HB := n2_; have BK590 := n3_; have GW590 := n4_; have GE590 := n5_; have NB582_590 := n6_; have NB590_582 := n7_; have NB586_590 := n8_; have NB590_586 := n9_; clear n0_ n1_ n2_ n3_ n4_ n5_ n6_ n7_ n8_ n9_; clear hb hbox hg; have hnb23 := NB590_582.out; have hnc23 := NB582_590.out; have hnb24 := NB590_586.out; have hnc24 := NB586_590.out; have hcz25_0 : w22.cell? ⟨gb590, 0, none⟩ = some (.string (⟨#[]⟩ : ByteArray)) := (blk_cell BK590.out 0).trans rfl; have hcz25_1 : w22.cell? ⟨gb590, 1, none⟩ = some (.string (⟨#[]⟩ : ByteArray)) := (blk_cell BK590.out 1).trans rfl; have hfz25_0 := blk_frozen BK590.out 0; have hfz25_1 := blk_frozen BK590.out 1))
          have n0_ : Aside0 (((w22.setCell ⟨gb590, 0, none⟩ (.string t587)).setCell ⟨gb590, 1, none⟩ (.string t588)).heap[gb582]? = some (.cells #[.string a0_0, .string a0_1] 23 (0, 0))) := ⟨by (with_reducible repeat (first | refine blk_drewN ?_ _ | refine blk_drew ?_ | refine blk_alloc ?_ _)); refine blk_far ?_ NB582_590.out _; (with_reducible repeat (first | refine blk_drewN ?_ _ | refine blk_drew ?_ | refine blk_alloc ?_ _)); refine blk_far ?_ NB582_590.out _; (with_reducible repeat (first | refine blk_drewN ?_ _ | refine blk_drew ?_ | refine blk_alloc ?_ _)); exact BK582.out⟩
          have n1_ : Aside0 (((w22.setCell ⟨gb590, 0, none⟩ (.string t587)).setCell ⟨gb590, 1, none⟩ (.string t588)).heap[gb586]? = some (.cells #[.string t583, .string t584] 23 (0, 0))) := ⟨by (with_reducible repeat (first | refine blk_drewN ?_ _ | refine blk_drew ?_ | refine blk_alloc ?_ _)); refine blk_far ?_ NB586_590.out _; (with_reducible repeat (first | refine blk_drewN ?_ _ | refine blk_drew ?_ | refine blk_alloc ?_ _)); refine blk_far ?_ NB586_590.out _; (with_reducible repeat (first | refine blk_drewN ?_ _ | refine blk_drew ?_ | refine blk_alloc ?_ _)); exact BK586.out⟩
          have n2_ : Aside0 (((w22.setCell ⟨gb590, 0, none⟩ (.string t587)).setCell ⟨gb590, 1, none⟩ (.string t588)).heap[gb590]? = some (.cells #[.string t587, .string t588] 23 (0, 0))) := ⟨by (with_reducible repeat (first | refine blk_drewN ?_ _ | refine blk_drew ?_ | refine blk_alloc ?_ _)); refine blk_put (cs := #[.string t587, .string (⟨#[]⟩ : ByteArray)]) ?_ 1 _ rfl; (with_reducible repeat (first | refine blk_drewN ?_ _ | refine blk_drew ?_ | refine blk_alloc ?_ _)); refine blk_put (cs := #[.string (⟨#[]⟩ : ByteArray), .string (⟨#[]⟩ : ByteArray)]) ?_ 0 _ rfl; (with_reducible repeat (first | refine blk_drewN ?_ _ | refine blk_drew ?_ | refine blk_alloc ?_ _)); exact BK590.out⟩
          have n3_ : Aside0 (Below w.heap.size w ((w22.setCell ⟨gb590, 0, none⟩ (.string t587)).setCell ⟨gb590, 1, none⟩ (.string t588))) := ⟨by repeat (first | (with_reducible first | exact HB.out | apply below_alloc | apply pw_below_drewN | apply below_drew1 | refine below_set ?_ GE582.out | refine below_set ?_ GE586.out | refine below_set ?_ GE590.out) | exact HB.out)⟩
          (try clear BK582)
          (try clear BK586)
          (try clear BK590)
          (try clear HB)
          generalize ((w22.setCell ⟨gb590, 0, none⟩ (.string t587)).setCell ⟨gb590, 1, none⟩ (.string t588)) = w26 at n0_ n1_ n2_ n3_ ⊢
          have BK582 := n0_
          have BK586 := n1_
          have BK590 := n2_
          have HB := n3_
          clear n0_ n1_ n2_ n3_
          have n0_ := Aside0.mk (blk_drew BK582.out)
          have n1_ := Aside0.mk (blk_drew BK586.out)
          have n2_ := Aside0.mk (blk_drew BK590.out)
          have n3_ := Aside0.mk (below_drew1 HB.out)
          clear BK582
          clear BK586
          clear BK590
          clear HB
          have BK582 := n0_
          have BK586 := n1_
          have BK590 := n2_
          have HB := n3_
          clear n0_ n1_ n2_ n3_
          refine start_ (n := 26) (S := fun w' => w'.cell? ⟨gb582, 0, none⟩ = some (.string a0_0) ∧ w'.cell? ⟨gb582, 1, none⟩ = some (.string a0_1) ∧ w'.cell? ⟨gb586, 0, none⟩ = some (.string t583) ∧ w'.cell? ⟨gb586, 1, none⟩ = some (.string t584) ∧ w'.cell? ⟨gb590, 0, none⟩ = some (.string t587) ∧ w'.cell? ⟨gb590, 1, none⟩ = some (.string t588)) (ds := []) #[false, false, false, false, false, false, false, false, false, false, false, false, false, false, false, false, false, false, false, false, false, false, false, false, false, false] (by kernel_rfl) rfl rfl ⟨(blk_cell BK582.out 0).trans rfl, (blk_cell BK582.out 1).trans rfl, (blk_cell BK586.out 0).trans rfl, (blk_cell BK586.out 1).trans rfl, (blk_cell BK590.out 0).trans rfl, (blk_cell BK590.out 1).trans rfl⟩ (fun hHeld => ?_); refine with_tabW cubitlaw02_RatMakes.tab3 cubitlaw02_RatMakes.bits3 (fun HT_ HW_ => ?_)
          generalize w26.drew = w27 at BK582 BK586 BK590 HB hHeld ⊢
          refine take_ (i := 0) (N := some 25) (v := ?_) (a' := ?_) #[true, false, false, false, false, false, false, false, false, false, false, false, false, false, false, false, false, false, false, false, false, false, false, false, false, false] rfl rfl (take_ofW HT_.out HW_.out (by kernel_rfl)) (fun _ _ _ h => h) (Or.inl ⟨by rfl, ?_⟩) hHeld ?_ ?_
          rotate_left
          · rintro w' ⟨s0, s1, s2, s3, s4, s5⟩
            go_simp
            with_reducible rfl
          rotate_left
          · simp only [Act.put, List.setIfInBounds_toArray, List.set_cons_zero, List.set_cons_succ, i64_w, i32_w]
            rfl
          refine take_ (i := 2) (N := some 27) (v := ?_) (a' := ?_) #[true, false, true, false, false, false, false, false, false, false, false, false, false, false, false, false, false, false, false, false, false, false, false, false, false, false] rfl rfl (take_ofW HT_.out HW_.out (by kernel_rfl)) (fun _ _ _ h => h) (Or.inl ⟨by rfl, ?_⟩) hHeld ?_ ?_
          rotate_left
          · rintro w' ⟨s0, s1, s2, s3, s4, s5⟩
            go_simp
            with_reducible rfl
          rotate_left
          · simp only [Act.put, List.setIfInBounds_toArray, List.set_cons_zero, List.set_cons_succ, i64_w, i32_w]
            rfl
          refine one_ (i := 1) (N := some 26) #[true, true, true, false, false, false, false, false, false, false, false, false, false, false, false, false, false, false, false, false, false, false, false, false, false, false] rfl rfl (one_of HT_.out (by kernel_rfl)) (by decide) (fun K hK => ?_)
          refine goes_ Tryz.func35 (by kernel_rfl) rfl #[.agg #[.string a0_0, .string a0_1]] (by rfl) rfl rfl (by (try simp only [List.map_toArray, List.map_cons, List.map_nil]); first | done | rfl | (simp only [List.length_drop, List.length_take]; rfl)) ?_
          with_reducible refine (rat_Right.calls a0_0 a0_1 t591 _ A7.out).mono ?_
          rintro e w28 ⟨rfl, hb⟩
          refine ⟨_, rfl, ?_⟩
          have n0_ := Aside0.mk (blk_below (g := gb582) (o := .cells #[.string a0_0, .string a0_1] 23 (0, 0)) (by (with_reducible repeat (first | refine blk_drewN ?_ _ | refine blk_drew ?_ | refine blk_alloc ?_ _)); exact BK582.out) hb)
          have n1_ := Aside0.mk (blk_below (g := gb586) (o := .cells #[.string t583, .string t584] 23 (0, 0)) (by (with_reducible repeat (first | refine blk_drewN ?_ _ | refine blk_drew ?_ | refine blk_alloc ?_ _)); exact BK586.out) hb)
          have n2_ := Aside0.mk (blk_below (g := gb590) (o := .cells #[.string t587, .string t588] 23 (0, 0)) (by (with_reducible repeat (first | refine blk_drewN ?_ _ | refine blk_drew ?_ | refine blk_alloc ?_ _)); exact BK590.out) hb)
          have n3_ := Aside0.mk (below_step (by repeat (first | (with_reducible first | exact HB.out | apply below_alloc | apply pw_below_drewN | apply below_drew1 | refine below_set ?_ GE582.out | refine below_set ?_ GE586.out | refine below_set ?_ GE590.out) | exact HB.out)) hb)
          clear BK582
          clear BK586
          clear BK590
          clear HB
          have BK582 := n0_
          have BK586 := n1_
          have BK590 := n2_
          have HB := n3_
          clear n0_ n1_ n2_ n3_
          (try clear hb)
          (try clear hb2)
          (try clear hk)
          (try clear hi)
          refine hK.out _ _ ⟨(blk_cell BK582.out 0).trans rfl, (blk_cell BK582.out 1).trans rfl, (blk_cell BK586.out 0).trans rfl, (blk_cell BK586.out 1).trans rfl, (blk_cell BK590.out 0).trans rfl, (blk_cell BK590.out 1).trans rfl⟩ (fun hHeld => ?_)
          clear hK K
          refine norm_ (a' := ?_) ?_ ?_
          rotate_left
          · show Act.put _ (some 26) _ = _
            simp only [Act.put, List.setIfInBounds_toArray, List.set_cons_zero, List.set_cons_succ, i64_w, i32_w]
            rfl
          refine one_ (i := 3) (N := some 28) #[true, true, true, true, false, false, false, false, false, false, false, false, false, false, false, false, false, false, false, false, false, false, false, false, false, false] rfl rfl (one_of HT_.out (by kernel_rfl)) (by decide) (fun K hK => ?_)
          refine goes_ Tryz.func36 (by kernel_rfl) rfl #[.agg #[.string a0_0, .string a0_1]] (by rfl) rfl rfl (by (try simp only [List.map_toArray, List.map_cons, List.map_nil]); first | done | rfl | (simp only [List.length_drop, List.length_take]; rfl)) ?_
          with_reducible refine (cubitref02_Right.calls k a0_0 a0_1 t592 _ A8.out).mono ?_
          rintro e w29 ⟨rfl, hb⟩
          refine ⟨_, rfl, ?_⟩
          have n0_ := Aside0.mk (blk_below (g := gb582) (o := .cells #[.string a0_0, .string a0_1] 23 (0, 0)) (by (with_reducible repeat (first | refine blk_drewN ?_ _ | refine blk_drew ?_ | refine blk_alloc ?_ _)); exact BK582.out) hb)
          have n1_ := Aside0.mk (blk_below (g := gb586) (o := .cells #[.string t583, .string t584] 23 (0, 0)) (by (with_reducible repeat (first | refine blk_drewN ?_ _ | refine blk_drew ?_ | refine blk_alloc ?_ _)); exact BK586.out) hb)
          have n2_ := Aside0.mk (blk_below (g := gb590) (o := .cells #[.string t587, .string t588] 23 (0, 0)) (by (with_reducible repeat (first | refine blk_drewN ?_ _ | refine blk_drew ?_ | refine blk_alloc ?_ _)); exact BK590.out) hb)
          have n3_ := Aside0.mk (below_step (by repeat (first | (with_reducible first | exact HB.out | apply below_alloc | apply pw_below_drewN | apply below_drew1 | refine below_set ?_ GE582.out | refine below_set ?_ GE586.out | refine below_set ?_ GE590.out) | exact HB.out)) hb)
          clear BK582
          clear BK586
          clear BK590
          clear HB
          have BK582 := n0_
          have BK586 := n1_
          have BK590 := n2_
          have HB := n3_
          clear n0_ n1_ n2_ n3_
          (try clear hb)
          (try clear hb2)
          (try clear hk)
          (try clear hi)
          refine hK.out _ _ ⟨(blk_cell BK582.out 0).trans rfl, (blk_cell BK582.out 1).trans rfl, (blk_cell BK586.out 0).trans rfl, (blk_cell BK586.out 1).trans rfl, (blk_cell BK590.out 0).trans rfl, (blk_cell BK590.out 1).trans rfl⟩ (fun hHeld => ?_)
          clear hK K
          refine norm_ (a' := ?_) ?_ ?_
          rotate_left
          · show Act.put _ (some 28) _ = _
            simp only [Act.put, List.setIfInBounds_toArray, List.set_cons_zero, List.set_cons_succ, i64_w, i32_w]
            rfl
          refine pure_ (i := 4) (N := some 29) (v := ?_) (a' := ?_) #[true, true, true, true, true, false, false, false, false, false, false, false, false, false, false, false, false, false, false, false, false, false, false, false, false, false] rfl rfl (any_of HT_.out (by kernel_rfl)) (fun _ _ _ h => h) (Or.inl ⟨by rfl, ?_⟩) ?_ ?_
          rotate_left
          · intro w'
            go_simp
            with_reducible rfl
          rotate_left
          · simp only [Act.put, List.setIfInBounds_toArray, List.set_cons_zero, List.set_cons_succ, i64_w, i32_w]
            rfl
          refine pure_ (i := 5) (N := some 30) (v := ?_) (a' := ?_) #[true, true, true, true, true, true, false, false, false, false, false, false, false, false, false, false, false, false, false, false, false, false, false, false, false, false] rfl rfl (any_of HT_.out (by kernel_rfl)) (fun _ _ _ h => h) (Or.inl ⟨by rfl, ?_⟩) ?_ ?_
          rotate_left
          · intro w'
            go_simp
            with_reducible rfl
          rotate_left
          · simp only [Act.put, List.setIfInBounds_toArray, List.set_cons_zero, List.set_cons_succ, i64_w, i32_w]
            rfl
          refine take_ (i := 6) (N := some 31) (v := ?_) (a' := ?_) #[true, true, true, true, true, true, true, false, false, false, false, false, false, false, false, false, false, false, false, false, false, false, false, false, false, false] rfl rfl (take_ofW HT_.out HW_.out (by kernel_rfl)) (fun _ _ _ h => h) (Or.inl ⟨by rfl, ?_⟩) hHeld ?_ ?_
          rotate_left
          · rintro w' ⟨s0, s1, s2, s3, s4, s5⟩
            go_simp
            with_reducible rfl
          rotate_left
          · simp only [Act.put, List.setIfInBounds_toArray, List.set_cons_zero, List.set_cons_succ, i64_w, i32_w]
            rfl
          refine take_ (i := 7) (N := some 32) (v := ?_) (a' := ?_) #[true, true, true, true, true, true, true, true, false, false, false, false, false, false, false, false, false, false, false, false, false, false, false, false, false, false] rfl rfl (take_ofW HT_.out HW_.out (by kernel_rfl)) (fun _ _ _ h => h) (Or.inl ⟨by rfl, ?_⟩) hHeld ?_ ?_
          rotate_left
          · rintro w' ⟨s0, s1, s2, s3, s4, s5⟩
            go_simp
            with_reducible rfl
          rotate_left
          · simp only [Act.put, List.setIfInBounds_toArray, List.set_cons_zero, List.set_cons_succ, i64_w, i32_w]
            rfl
          refine pure_ (i := 8) (N := some 33) (v := ?_) (a' := ?_) #[true, true, true, true, true, true, true, true, true, false, false, false, false, false, false, false, false, false, false, false, false, false, false, false, false, false] rfl rfl (any_of HT_.out (by kernel_rfl)) (fun _ _ _ h => h) (Or.inl ⟨by rfl, ?_⟩) ?_ ?_
          rotate_left
          · intro w'
            go_simp
            with_reducible rfl
          rotate_left
          · simp only [Act.put, List.setIfInBounds_toArray, List.set_cons_zero, List.set_cons_succ, i64_w, i32_w]
            rfl
          refine pure_ (i := 9) (N := some 34) (v := ?_) (a' := ?_) #[true, true, true, true, true, true, true, true, true, true, false, false, false, false, false, false, false, false, false, false, false, false, false, false, false, false] rfl rfl (any_of HT_.out (by kernel_rfl)) (fun _ _ _ h => h) (Or.inl ⟨by rfl, ?_⟩) ?_ ?_
          rotate_left
          · intro w'
            go_simp
            with_reducible rfl
          rotate_left
          · simp only [Act.put, List.setIfInBounds_toArray, List.set_cons_zero, List.set_cons_succ, i64_w, i32_w]
            rfl
          refine pure_ (i := 10) (N := some 35) (v := ?_) (a' := ?_) #[true, true, true, true, true, true, true, true, true, true, true, false, false, false, false, false, false, false, false, false, false, false, false, false, false, false] rfl rfl (any_of HT_.out (by kernel_rfl)) (fun _ _ _ h => h) (Or.inl ⟨by rfl, ?_⟩) ?_ ?_
          rotate_left
          · intro w'
            go_simp
            with_reducible rfl
          rotate_left
          · simp only [Act.put, List.setIfInBounds_toArray, List.set_cons_zero, List.set_cons_succ, i64_w, i32_w]
            rfl
          refine pure_ (i := 11) (N := some 36) (v := ?_) (a' := ?_) #[true, true, true, true, true, true, true, true, true, true, true, true, false, false, false, false, false, false, false, false, false, false, false, false, false, false] rfl rfl (any_of HT_.out (by kernel_rfl)) (fun _ _ _ h => h) (Or.inl ⟨by rfl, ?_⟩) ?_ ?_
          rotate_left
          · intro w'
            go_simp
            with_reducible rfl
          rotate_left
          · simp only [Act.put, List.setIfInBounds_toArray, List.set_cons_zero, List.set_cons_succ, i64_w, i32_w]
            rfl
          refine pure_ (i := 12) (N := some 37) (v := ?_) (a' := ?_) #[true, true, true, true, true, true, true, true, true, true, true, true, true, false, false, false, false, false, false, false, false, false, false, false, false, false] rfl rfl (any_of HT_.out (by kernel_rfl)) (fun _ _ _ h => h) (Or.inl ⟨by rfl, ?_⟩) ?_ ?_
          rotate_left
          · intro w'
            go_simp
            with_reducible rfl
          rotate_left
          · simp only [Act.put, List.setIfInBounds_toArray, List.set_cons_zero, List.set_cons_succ, i64_w, i32_w]
            rfl
          refine pure_ (i := 13) (N := some 38) (v := ?_) (a' := ?_) #[true, true, true, true, true, true, true, true, true, true, true, true, true, true, false, false, false, false, false, false, false, false, false, false, false, false] rfl rfl (any_of HT_.out (by kernel_rfl)) (fun _ _ _ h => h) (Or.inl ⟨by rfl, ?_⟩) ?_ ?_
          rotate_left
          · intro w'
            go_simp
            with_reducible rfl
          rotate_left
          · simp only [Act.put, List.setIfInBounds_toArray, List.set_cons_zero, List.set_cons_succ, i64_w, i32_w]
            rfl
          refine pure_ (i := 14) (N := some 39) (v := ?_) (a' := ?_) #[true, true, true, true, true, true, true, true, true, true, true, true, true, true, true, false, false, false, false, false, false, false, false, false, false, false] rfl rfl (any_of HT_.out (by kernel_rfl)) (fun _ _ _ h => h) (Or.inl ⟨by rfl, ?_⟩) ?_ ?_
          rotate_left
          · intro w'
            go_simp
            with_reducible rfl
          rotate_left
          · simp only [Act.put, List.setIfInBounds_toArray, List.set_cons_zero, List.set_cons_succ, i64_w, i32_w]
            rfl
          refine pure_ (i := 15) (N := some 40) (v := ?_) (a' := ?_) #[true, true, true, true, true, true, true, true, true, true, true, true, true, true, true, true, false, false, false, false, false, false, false, false, false, false] rfl rfl (any_of HT_.out (by kernel_rfl)) (fun _ _ _ h => h) (Or.inl ⟨by rfl, ?_⟩) ?_ ?_
          rotate_left
          · intro w'
            go_simp
            with_reducible rfl
          rotate_left
          · simp only [Act.put, List.setIfInBounds_toArray, List.set_cons_zero, List.set_cons_succ, i64_w, i32_w]
            rfl
          refine pure_ (i := 16) (N := some 41) (v := ?_) (a' := ?_) #[true, true, true, true, true, true, true, true, true, true, true, true, true, true, true, true, true, false, false, false, false, false, false, false, false, false] rfl rfl (any_of HT_.out (by kernel_rfl)) (fun _ _ _ h => h) (Or.inl ⟨by rfl, ?_⟩) ?_ ?_
          rotate_left
          · intro w'
            go_simp
            with_reducible rfl
          rotate_left
          · simp only [Act.put, List.setIfInBounds_toArray, List.set_cons_zero, List.set_cons_succ, i64_w, i32_w]
            rfl
          refine pure_ (i := 18) (N := some 43) (v := ?_) (a' := ?_) #[true, true, true, true, true, true, true, true, true, true, true, true, true, true, true, true, true, false, true, false, false, false, false, false, false, false] rfl rfl (any_of HT_.out (by kernel_rfl)) (fun _ _ _ h => h) (Or.inl ⟨by rfl, ?_⟩) ?_ ?_
          rotate_left
          · intro w'
            go_simp
            with_reducible rfl
          rotate_left
          · simp only [Act.put, List.setIfInBounds_toArray, List.set_cons_zero, List.set_cons_succ, i64_w, i32_w]
            rfl
          refine one_ (i := 17) (N := some 42) #[true, true, true, true, true, true, true, true, true, true, true, true, true, true, true, true, true, true, true, false, false, false, false, false, false, false] rfl rfl (one_of HT_.out (by kernel_rfl)) (by decide) (fun K hK => ?_)
          refine goes_ Tryz.func37 (by kernel_rfl) rfl #[.int .i64 a3] (by rfl) rfl rfl (by (try simp only [List.map_toArray, List.map_cons, List.map_nil]); first | done | rfl | (simp only [List.length_drop, List.length_take]; rfl)) ?_
          with_reducible refine (rat_Of.calls a3 t593 t594 _ A12.out).mono ?_
          rintro e w30 ⟨rfl, hb⟩
          refine ⟨_, rfl, ?_⟩
          have n0_ := Aside0.mk (blk_below (g := gb582) (o := .cells #[.string a0_0, .string a0_1] 23 (0, 0)) (by (with_reducible repeat (first | refine blk_drewN ?_ _ | refine blk_drew ?_ | refine blk_alloc ?_ _)); exact BK582.out) hb)
          have n1_ := Aside0.mk (blk_below (g := gb586) (o := .cells #[.string t583, .string t584] 23 (0, 0)) (by (with_reducible repeat (first | refine blk_drewN ?_ _ | refine blk_drew ?_ | refine blk_alloc ?_ _)); exact BK586.out) hb)
          have n2_ := Aside0.mk (blk_below (g := gb590) (o := .cells #[.string t587, .string t588] 23 (0, 0)) (by (with_reducible repeat (first | refine blk_drewN ?_ _ | refine blk_drew ?_ | refine blk_alloc ?_ _)); exact BK590.out) hb)
          have n3_ := Aside0.mk (below_step (by repeat (first | (with_reducible first | exact HB.out | apply below_alloc | apply pw_below_drewN | apply below_drew1 | refine below_set ?_ GE582.out | refine below_set ?_ GE586.out | refine below_set ?_ GE590.out) | exact HB.out)) hb)
          clear BK582
          clear BK586
          clear BK590
          clear HB
          have BK582 := n0_
          have BK586 := n1_
          have BK590 := n2_
          have HB := n3_
          clear n0_ n1_ n2_ n3_
          (try clear hb)
          (try clear hb2)
          (try clear hk)
          (try clear hi)
          refine hK.out _ _ ⟨(blk_cell BK582.out 0).trans rfl, (blk_cell BK582.out 1).trans rfl, (blk_cell BK586.out 0).trans rfl, (blk_cell BK586.out 1).trans rfl, (blk_cell BK590.out 0).trans rfl, (blk_cell BK590.out 1).trans rfl⟩ (fun hHeld => ?_)
          clear hK K
          refine norm_ (a' := ?_) ?_ ?_
          rotate_left
          · show Act.put _ (some 42) _ = _
            simp only [Act.put, List.setIfInBounds_toArray, List.set_cons_zero, List.set_cons_succ, i64_w, i32_w]
            rfl
          refine one_ (i := 19) (N := some 44) #[true, true, true, true, true, true, true, true, true, true, true, true, true, true, true, true, true, true, true, true, false, false, false, false, false, false] rfl rfl (one_of HT_.out (by kernel_rfl)) (by decide) (fun K hK => ?_)
          refine goes_ Tryz.func38 (by kernel_rfl) rfl #[.int .i64 a3] (by rfl) rfl rfl (by (try simp only [List.map_toArray, List.map_cons, List.map_nil]); first | done | rfl | (simp only [List.length_drop, List.length_take]; rfl)) ?_
          with_reducible refine (cubitref02_Of.calls k a3 t595 t596 _ A13.out).mono ?_
          rintro e w31 ⟨rfl, hb⟩
          refine ⟨_, rfl, ?_⟩
          have n0_ := Aside0.mk (blk_below (g := gb582) (o := .cells #[.string a0_0, .string a0_1] 23 (0, 0)) (by (with_reducible repeat (first | refine blk_drewN ?_ _ | refine blk_drew ?_ | refine blk_alloc ?_ _)); exact BK582.out) hb)
          have n1_ := Aside0.mk (blk_below (g := gb586) (o := .cells #[.string t583, .string t584] 23 (0, 0)) (by (with_reducible repeat (first | refine blk_drewN ?_ _ | refine blk_drew ?_ | refine blk_alloc ?_ _)); exact BK586.out) hb)
          have n2_ := Aside0.mk (blk_below (g := gb590) (o := .cells #[.string t587, .string t588] 23 (0, 0)) (by (with_reducible repeat (first | refine blk_drewN ?_ _ | refine blk_drew ?_ | refine blk_alloc ?_ _)); exact BK590.out) hb)
          have n3_ := Aside0.mk (below_step (by repeat (first | (with_reducible first | exact HB.out | apply below_alloc | apply pw_below_drewN | apply below_drew1 | refine below_set ?_ GE582.out | refine below_set ?_ GE586.out | refine below_set ?_ GE590.out) | exact HB.out)) hb)
          clear BK582
          clear BK586
          clear BK590
          clear HB
          have BK582 := n0_
          have BK586 := n1_
          have BK590 := n2_
          have HB := n3_
          clear n0_ n1_ n2_ n3_
          (try clear hb)
          (try clear hb2)
          (try clear hk)
          (try clear hi)
          refine hK.out _ _ ⟨(blk_cell BK582.out 0).trans rfl, (blk_cell BK582.out 1).trans rfl, (blk_cell BK586.out 0).trans rfl, (blk_cell BK586.out 1).trans rfl, (blk_cell BK590.out 0).trans rfl, (blk_cell BK590.out 1).trans rfl⟩ (fun hHeld => ?_)
          clear hK K
          refine norm_ (a' := ?_) ?_ ?_
          rotate_left
          · show Act.put _ (some 44) _ = _
            simp only [Act.put, List.setIfInBounds_toArray, List.set_cons_zero, List.set_cons_succ, i64_w, i32_w]
            rfl
          refine pure_ (i := 20) (N := some 45) (v := ?_) (a' := ?_) #[true, true, true, true, true, true, true, true, true, true, true, true, true, true, true, true, true, true, true, true, true, false, false, false, false, false] rfl rfl (any_of HT_.out (by kernel_rfl)) (fun _ _ _ h => h) (Or.inl ⟨by rfl, ?_⟩) ?_ ?_
          rotate_left
          · intro w'
            go_simp
            with_reducible rfl
          rotate_left
          · simp only [Act.put, List.setIfInBounds_toArray, List.set_cons_zero, List.set_cons_succ, i64_w, i32_w]
            rfl
          refine pure_ (i := 21) (N := some 46) (v := ?_) (a' := ?_) #[true, true, true, true, true, true, true, true, true, true, true, true, true, true, true, true, true, true, true, true, true, true, false, false, false, false] rfl rfl (any_of HT_.out (by kernel_rfl)) (fun _ _ _ h => h) (Or.inl ⟨by rfl, ?_⟩) ?_ ?_
          rotate_left
          · intro w'
            go_simp
            with_reducible rfl
          rotate_left
          · simp only [Act.put, List.setIfInBounds_toArray, List.set_cons_zero, List.set_cons_succ, i64_w, i32_w]
            rfl
          refine pure_ (i := 22) (N := some 47) (v := ?_) (a' := ?_) #[true, true, true, true, true, true, true, true, true, true, true, true, true, true, true, true, true, true, true, true, true, true, true, false, false, false] rfl rfl (any_of HT_.out (by kernel_rfl)) (fun _ _ _ h => h) (Or.inl ⟨by rfl, ?_⟩) ?_ ?_
          rotate_left
          · intro w'
            go_simp
            with_reducible rfl
          rotate_left
          · simp only [Act.put, List.setIfInBounds_toArray, List.set_cons_zero, List.set_cons_succ, i64_w, i32_w]
            rfl
          refine one_ (i := 23) (N := some 48) #[true, true, true, true, true, true, true, true, true, true, true, true, true, true, true, true, true, true, true, true, true, true, true, true, false, false] rfl rfl (one_of HT_.out (by kernel_rfl)) (by decide) (fun K hK => ?_)
          refine goes_ Tryz.func32 (by kernel_rfl) rfl #[] (by rfl) rfl rfl (by (try simp only [List.map_toArray, List.map_cons, List.map_nil]); first | done | rfl | (simp only [List.length_drop, List.length_take]; rfl)) ?_
          with_reducible refine (cubitlaw02_awake.calls  t597 _ A15.out).mono ?_
          rintro e w32 ⟨rfl, hb⟩
          refine ⟨_, rfl, ?_⟩
          have n0_ := Aside0.mk (blk_below (g := gb582) (o := .cells #[.string a0_0, .string a0_1] 23 (0, 0)) (by (with_reducible repeat (first | refine blk_drewN ?_ _ | refine blk_drew ?_ | refine blk_alloc ?_ _)); exact BK582.out) hb)
          have n1_ := Aside0.mk (blk_below (g := gb586) (o := .cells #[.string t583, .string t584] 23 (0, 0)) (by (with_reducible repeat (first | refine blk_drewN ?_ _ | refine blk_drew ?_ | refine blk_alloc ?_ _)); exact BK586.out) hb)
          have n2_ := Aside0.mk (blk_below (g := gb590) (o := .cells #[.string t587, .string t588] 23 (0, 0)) (by (with_reducible repeat (first | refine blk_drewN ?_ _ | refine blk_drew ?_ | refine blk_alloc ?_ _)); exact BK590.out) hb)
          have n3_ := Aside0.mk (below_step (by repeat (first | (with_reducible first | exact HB.out | apply below_alloc | apply pw_below_drewN | apply below_drew1 | refine below_set ?_ GE582.out | refine below_set ?_ GE586.out | refine below_set ?_ GE590.out) | exact HB.out)) hb)
          clear BK582
          clear BK586
          clear BK590
          clear HB
          have BK582 := n0_
          have BK586 := n1_
          have BK590 := n2_
          have HB := n3_
          clear n0_ n1_ n2_ n3_
          (try clear hb)
          (try clear hb2)
          (try clear hk)
          (try clear hi)
          refine hK.out _ _ ⟨(blk_cell BK582.out 0).trans rfl, (blk_cell BK582.out 1).trans rfl, (blk_cell BK586.out 0).trans rfl, (blk_cell BK586.out 1).trans rfl, (blk_cell BK590.out 0).trans rfl, (blk_cell BK590.out 1).trans rfl⟩ (fun hHeld => ?_)
          clear hK K
          refine norm_ (a' := ?_) ?_ ?_
          rotate_left
          · show Act.put _ (some 48) _ = _
            simp only [Act.put, List.setIfInBounds_toArray, List.set_cons_zero, List.set_cons_succ, i64_w, i32_w]
            rfl
          refine pure_ (i := 24) (N := some 49) (v := ?_) (a' := ?_) #[true, true, true, true, true, true, true, true, true, true, true, true, true, true, true, true, true, true, true, true, true, true, true, true, true, false] rfl rfl (any_of HT_.out (by kernel_rfl)) (fun _ _ _ h => h) (Or.inl ⟨by rfl, ?_⟩) ?_ ?_
          rotate_left
          · intro w'
            go_simp
            with_reducible rfl
          rotate_left
          · simp only [Act.put, List.setIfInBounds_toArray, List.set_cons_zero, List.set_cons_succ, i64_w, i32_w]
            rfl
          refine pure_ (i := 25) (N := some 8) (v := ?_) (a' := ?_) #[true, true, true, true, true, true, true, true, true, true, true, true, true, true, true, true, true, true, true, true, true, true, true, true, true, true] rfl rfl (any_of HT_.out (by kernel_rfl)) (fun _ _ _ h => h) (Or.inl ⟨by rfl, ?_⟩) ?_ ?_
          rotate_left
          · intro w'
            go_simp
            with_reducible rfl
          rotate_left
          · simp only [Act.put, List.setIfInBounds_toArray, List.set_cons_zero, List.set_cons_succ, i64_w, i32_w]
            rfl
          refine done_ (done_of HT_.out (by kernel_rfl)) ?_
          try go_wp2
          go_ret
          exact ⟨by first | rfl | (simp [errW_none, errW_some] <;> rfl) | (simp [*, errW_none, errW_some] <;> rfl), by repeat (first | (with_reducible first | exact HB.out | apply below_alloc | apply pw_below_drewN | apply below_drew1 | refine below_set ?_ GE582.out | refine below_set ?_ GE586.out | refine below_set ?_ GE590.out) | exact HB.out)⟩
        · rw [if_neg c14] at H
          exact absurd ((Option.some.inj H).trans hr) (by decide)
      · rw [if_neg c11] at H
        exact absurd ((Option.some.inj H).trans hr) (by decide)
    · rw [if_neg c10] at H
      exact absurd ((Option.some.inj H).trans hr) (by decide)
  · rw [if_neg c9] at H
    exact absurd ((Option.some.inj H).trans hr) (by decide)
end Go.Proofs.YtglaeambknhjlaaGreatDoor.Q
end
section
set_option linter.unusedVariables false
namespace Go.Proofs.YtglaeambknhjlaaGreatDoor.Q
open Go.RowKit Go.Proofs.YtglaeambknhjlaaGreatDoorW.PrintWords Go.Proofs.YtglaeambknhjlaaGreatDoor.P
theorem ratMakes_ev (a0 b0 a1 a2 : ByteArray) (a3 : Int) (h0 : -9223372036854775808 ≤ a3) (h1 : a3 < 9223372036854775808) : Ev (fun k => cubitlaw02_RatMakes.f k a0 b0 a1 a2 a3) true := by
  obtain ⟨r, hr1, hr2⟩ := new_both a1 a2
  unfold cubitlaw02_RatMakes.f
  rw [hr1, rat_right_f, rat_of_f a3 h0 h1, awake_f]
  simp only [Option.bind_some]
  refine Ev.bind hr2 ?_
  refine Ev.bind (right_ev a0 b0) ?_
  refine Ev.congr (fun k => if_pos (beq_self_eq_true _)) ?_
  refine Ev.congr (fun k => if_pos (by rw [beq_self_eq_true, beq_self_eq_true]; rfl)) ?_
  refine Ev.congr (fun k => if_pos rfl) ?_
  refine Ev.bind (of_ev a3 h0 h1) ?_
  refine Ev.congr (fun k => if_pos (by rw [beq_self_eq_true, beq_self_eq_true]; rfl)) ?_
  exact Ev.now _
theorem RatMakes_any (a0 b0 a1 a2 : ByteArray) (a3 : Int) (W : World) (h0 : -9223372036854775808 ≤ a3) (h1 : a3 ≤ 9223372036854775807) :
    Calls Tryz.prog 6 #[.agg #[.string a0, .string b0], .string a1, .string a2, .int .i64 a3] W fun e W' => e = .returned (.bool true) ∧ Below W.heap.size W W' := by
  obtain ⟨k, hk⟩ := (ratMakes_ev a0 b0 a1 a2 a3 h0 (by omega)).rounds
  exact cubitlaw02_RatMakes.callsT k a0 b0 a1 a2 a3 true W hk rfl
end Go.Proofs.YtglaeambknhjlaaGreatDoor.Q
end
