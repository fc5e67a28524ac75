/- Texts under the proof, joined by a program (prune.py): Q187, QPure1, QPure2, P160, HForm. -/
import Derived.Test.YtglaeambknhjlaaGreatDoorCRatMakes09
import Derived.Test.YtglaeambknhjlaaGreatDoorCRatMakes06
import Derived.Test.YtglaeambknhjlaaGreatDoorCRatMakes01
import Derived.Test.YtglaeambknhjlaaGreatDoorCRatMakes08
import Derived.BigQuiet
import Derived.Deep.QuietTactic
set_option linter.unusedVariables false
set_option linter.unusedSimpArgs false
set_option exponentiation.threshold 20001
section
namespace Go.Proofs.YtglaeambknhjlaaGreatDoor.Q
open Go.RowKit Go.Proofs.YtglaeambknhjlaaGreatDoorW.PrintWords Go.Proofs.YtglaeambknhjlaaGreatDoorW.PrintLast Go.Proofs.YtglaeambknhjlaaGreatDoorW.PrintMore
attribute [local go_sem] max2_int min2_int max_two min_two max_three min_three max_four min_four
set_option linter.unusedVariables false
set_option linter.unusedSimpArgs false
noncomputable def cubitref02_Of.f (k : Nat) (a0 : Int) : Option (ByteArray × ByteArray) := (cubitref02_Whole.f a0).bind fun bt575 => ((cubitref02_Told.f k bt575.1 bt575.2.1 bt575.2.2).bind fun bt578 => (some (bt578.1, bt578.2.1)))
set_option maxHeartbeats 8000000 in
set_option maxRecDepth 100000 in
theorem cubitref02_Of.calls (k : Nat) (a0 : Int) (r1 : ByteArray) (r2 : ByteArray) (w : World) (h : cubitref02_Of.f k a0 = some (r1, r2)) :
    Calls Tryz.prog 38 #[.int .i64 a0] w fun e w' => e = .returned (.agg #[.string r1, .string r2]) ∧ Below w.heap.size w w' := by
  have hu23 := Tryz.underlying23
  have HB := Aside0.mk (Below.refl w.heap.size w)
  have H : ((cubitref02_Whole.f a0).bind fun bt575 => ((cubitref02_Told.f k bt575.1 bt575.2.1 bt575.2.2).bind fun bt578 => (some (bt578.1, bt578.2.1)))) = some (r1, r2) := h
  clear h
  replace H := Option.bind_eq_some_iff.mp H
  obtain ⟨⟨t575, t576, t577⟩, A20, H⟩ := H
  replace H : ((cubitref02_Told.f k t575 t576 t577).bind fun bt578 => (some (bt578.1, bt578.2.1))) = some (r1, r2) := H
  have A2 := Aside0.mk A20
  clear A20
  replace H := Option.bind_eq_some_iff.mp H
  obtain ⟨⟨t578, t579, t580⟩, A30, H⟩ := H
  replace H : (some (t578, t579)) = some (r1, r2) := H
  have A3 := Aside0.mk A30
  clear A30
  simp only [Option.some.injEq, Prod.mk.injEq] at H
  obtain ⟨rfl, rfl⟩ := H
  go_enter Tryz.func38, Tryz.ntmps38
  go_wp2_with (first | ((with_reducible refine gate_dst (N := 2) rfl ?_); refine box_event ?hg (N := 2) ?hd (cs := #[.string (⟨#[]⟩ : ByteArray), .string (⟨#[]⟩ : ByteArray)]) (t := 23) ?hr ?_; (case hd => rfl); (case hg => rfl); (case hr => first | (go_simp; done) | (go_simp; rfl)); intro gb574 hg w4 hbox hb; have n0_ := Aside0.mk (below_step (by repeat (first | (with_reducible first | exact HB.out | apply below_alloc | apply pw_below_drewN | apply below_drew1) | exact HB.out)) hb); have n1_ := Aside0.mk (hbox); have n2_ := Aside0.mk ((by rw [hg]; exact (below_size (by repeat (first | (with_reducible first | exact HB.out | apply below_alloc | apply pw_below_drewN | apply below_drew1) | exact HB.out))) : w.heap.size ≤ gb574)); have n3_ := Aside0.mk ((by rw [hg]; exact (below_size (by repeat (first | (with_reducible first | exact HB.out | apply below_alloc | apply pw_below_drewN | apply below_drew1) | exact HB.out))) : w.heap.size ≤ gb574)); clear HB; have HB := n0_; have BK574 := n1_; have GW574 := n2_; have GE574 := n3_; clear n0_ n1_ n2_ n3_; clear hb hbox hg) | ((with_reducible refine gate_callee (f := 66) rfl ?_); refine goesL_ (some 7) rfl rfl Tryz.func66 (by kernel_rfl) rfl #[.int .i64 a0] rfl (by (try simp only [List.map_toArray, List.map_cons, List.map_nil]); first | done | rfl | (simp only [List.length_drop, List.length_take]; rfl)) ?_; (with_reducible refine (cubitref02_Whole.calls a0 t575 t576 t577 _ A2.out).mono ?_); rintro e w5 ⟨rfl, hb⟩; refine ⟨_, rfl, ?_⟩; have n0_ := Aside0.mk (blk_below (g := gb574) (o := .cells #[.string (⟨#[]⟩ : ByteArray), .string (⟨#[]⟩ : ByteArray)] 23 (0, 0)) (by (with_reducible repeat (first | refine blk_drewN ?_ _ | refine blk_drew ?_ | refine blk_alloc ?_ _)); exact BK574.out) hb); have n1_ := Aside0.mk (below_step (by repeat (first | (with_reducible first | exact HB.out | apply below_alloc | apply pw_below_drewN | apply below_drew1 | refine below_set ?_ GE574.out) | exact HB.out)) hb); clear BK574; clear HB; have BK574 := n0_; have HB := n1_; clear n0_ n1_; (try clear hb); (try clear hb2); (try clear hk); (try clear hi)) | ((with_reducible refine gate_callee (f := 110) rfl ?_); refine goesL_ (some 8) rfl rfl Tryz.func110 (by kernel_rfl) rfl #[.agg #[.bool t575, .string t576, .string t577]] rfl (by (try simp only [List.map_toArray, List.map_cons, List.map_nil]); first | done | rfl | (simp only [List.length_drop, List.length_take]; rfl)) ?_; (with_reducible refine (cubitref02_Told.calls k t575 t576 t577 t578 t579 t580 _ A3.out).mono ?_); rintro e w6 ⟨rfl, hb⟩; refine ⟨_, rfl, ?_⟩; have n0_ := Aside0.mk (blk_below (g := gb574) (o := .cells #[.string (⟨#[]⟩ : ByteArray), .string (⟨#[]⟩ : ByteArray)] 23 (0, 0)) (by (with_reducible repeat (first | refine blk_drewN ?_ _ | refine blk_drew ?_ | refine blk_alloc ?_ _)); exact BK574.out) hb); have n1_ := Aside0.mk (below_step (by repeat (first | (with_reducible first | exact HB.out | apply below_alloc | apply pw_below_drewN | apply below_drew1 | refine below_set ?_ GE574.out) | exact HB.out)) hb); clear BK574; clear HB; have BK574 := n0_; have HB := n1_; clear n0_ n1_; (try clear hb); (try clear hb2); (try clear hk); (try clear hi)) | ((with_reducible refine gate_dst (N := 3) rfl ?_); refine box_event ?hg (N := 3) ?hd (cs := #[.string (⟨#[]⟩ : ByteArray), .string (⟨#[]⟩ : ByteArray)]) (t := 23) ?hr ?_; (case hd => rfl); (case hg => rfl); (case hr => first | (go_simp; done) | (go_simp; rfl)); intro gb581 hg w7 hbox hb; have n0_ := Aside0.mk (blk_below (g := gb574) (o := .cells #[.string (⟨#[]⟩ : ByteArray), .string (⟨#[]⟩ : ByteArray)] 23 (0, 0)) (by (with_reducible repeat (first | refine blk_drewN ?_ _ | refine blk_drew ?_ | refine blk_alloc ?_ _)); exact BK574.out) hb); have n1_ := Aside0.mk (below_step (by repeat (first | (with_reducible first | exact HB.out | apply below_alloc | apply pw_below_drewN | apply below_drew1 | refine below_set ?_ GE574.out) | exact HB.out)) hb); have n2_ := Aside0.mk (hbox); have n3_ := Aside0.mk ((by rw [hg]; exact (below_size (by repeat (first | (with_reducible first | exact HB.out | apply below_alloc | apply pw_below_drewN | apply below_drew1 | refine below_set ?_ GE574.out) | exact HB.out))) : w.heap.size ≤ gb581)); have n4_ := Aside0.mk ((by rw [hg]; exact (below_size (by repeat (first | (with_reducible first | exact HB.out | apply below_alloc | apply pw_below_drewN | apply below_drew1 | refine below_set ?_ GE574.out) | exact HB.out))) : w.heap.size ≤ gb581)); have n5_ := Aside0.mk ((by rw [hg]; exact Nat.ne_of_lt (blk_lt (g := gb574) (o := .cells #[.string (⟨#[]⟩ : ByteArray), .string (⟨#[]⟩ : ByteArray)] 23 (0, 0)) (by (with_reducible repeat (first | refine blk_drewN ?_ _ | refine blk_drew ?_ | refine blk_alloc ?_ _)); exact BK574.out)) : gb574 ≠ gb581)); have n6_ := Aside0.mk ((by rw [hg]; exact Nat.ne_of_gt (blk_lt (g := gb574) (o := .cells #[.string (⟨#[]⟩ : ByteArray), .string (⟨#[]⟩ : ByteArray)] 23 (0, 0)) (by (with_reducible repeat (first | refine blk_drewN ?_ _ | refine blk_drew ?_ | refine blk_alloc ?_ _)); exact BK574.out)) : gb581 ≠ gb574)); clear BK574; clear HB; have BK574 := n0_; have HB := n1_; have BK581 := n2_; have GW581 := n3_; have GE581 := n4_; have NB574_581 := n5_; have NB581_574 := n6_; clear n0_ n1_ n2_ n3_ n4_ n5_ n6_; clear hb hbox hg; have hnb8 := NB581_574.out; have hnc8 := NB574_581.out; have hcz9_0 : w7.cell? ⟨gb581, 0, none⟩ = some (.string (⟨#[]⟩ : ByteArray)) := (blk_cell BK581.out 0).trans rfl; have hcz9_1 : w7.cell? ⟨gb581, 1, none⟩ = some (.string (⟨#[]⟩ : ByteArray)) := (blk_cell BK581.out 1).trans rfl; have hfz9_0 := blk_frozen BK581.out 0; have hfz9_1 := blk_frozen BK581.out 1; have hcz10_0 : w7.cell? ⟨gb574, 0, none⟩ = some (.string (⟨#[]⟩ : ByteArray)) := (blk_cell BK574.out 0).trans rfl; have hcz10_1 : w7.cell? ⟨gb574, 1, none⟩ = some (.string (⟨#[]⟩ : ByteArray)) := (blk_cell BK574.out 1).trans rfl; have hfz10_0 := blk_frozen BK574.out 0; have hfz10_1 := blk_frozen BK574.out 1))
  refine bodyPost_ret (results_cell_row rfl _ _ gb574 23 #[.string t578, .string t579] (0, 0) _ rfl (by (with_reducible repeat (first | refine blk_drewN ?_ _ | refine blk_drew ?_ | refine blk_alloc ?_ _)); refine blk_put (cs := #[.string t578, .string (⟨#[]⟩ : ByteArray)]) ?_ 1 _ rfl; (with_reducible repeat (first | refine blk_drewN ?_ _ | refine blk_drew ?_ | refine blk_alloc ?_ _)); refine blk_put (cs := #[.string (⟨#[]⟩ : ByteArray), .string (⟨#[]⟩ : ByteArray)]) ?_ 0 _ rfl; (with_reducible repeat (first | refine blk_drewN ?_ _ | refine blk_drew ?_ | refine blk_alloc ?_ _)); refine blk_far ?_ NB574_581.out _; (with_reducible repeat (first | refine blk_drewN ?_ _ | refine blk_drew ?_ | refine blk_alloc ?_ _)); refine blk_far ?_ NB574_581.out _; (with_reducible repeat (first | refine blk_drewN ?_ _ | refine blk_drew ?_ | refine blk_alloc ?_ _)); exact BK574.out) Tryz.underlying23 rfl (by kernel_rfl)) rfl ?_
  exact ⟨by first | rfl | (simp [errW_none, errW_some] <;> rfl) | (simp [*, errW_none, errW_some] <;> rfl), by repeat (first | (with_reducible first | exact HB.out | apply below_alloc | apply pw_below_drewN | apply below_drew1 | refine below_set ?_ GE574.out | refine below_set ?_ GE581.out) | exact HB.out)⟩
end Go.Proofs.YtglaeambknhjlaaGreatDoor.Q
end
section
set_option linter.unusedVariables false
namespace Go.Proofs.YtglaeambknhjlaaGreatDoor.Q
open Go.RowKit Go.Proofs.YtglaeambknhjlaaGreatDoorW.PrintWords Go.Proofs.YtglaeambknhjlaaGreatDoor.P
def Fr (x : Rat) : Bool × ByteArray × ByteArray := (decide (x.num < 0), T x.num.natAbs, T x.den)
theorem wtext_neg {x : Int} (h : x < 0) : wtext x = (⟨#[45]⟩ : ByteArray) ++ T x.natAbs := by
  refine (ba_of_data (wtext_neg_data h)).trans (ba_of_data ?_).symm
  simp
theorem told_ev (x : Rat) : Ev (fun k => cubitref02_Told.f k (Fr x).1 (Fr x).2.1 (Fr x).2.2) (toldR x) := by
  have s1 := T_size_le (n := x.num.natAbs) (k := 600) (by decide)
  have s2 := T_size_le (n := x.den) (k := 600) (by decide)
  unfold cubitref02_Told.f
  show Ev (fun k => if ((T x.num.natAbs).size : Int) > 600 then _ else _) _
  by_cases h1 : ((T x.num.natAbs).size : Int) > 600
  · refine Ev.congr (fun k => if_pos h1) (Ev.step (f := fun _ => some (⟨#[]⟩, ⟨#[]⟩, 7)) (fun k => ?_) ?_)
    · simp only [cubitref02_Told.j0]
      rw [if_pos trivial]
    · have : toldR x = (⟨#[]⟩, ⟨#[]⟩, 7) := if_neg (fun h => by have := s1.2 h.1; omega)
      rw [this]; exact Ev.now _
  · refine Ev.congr (fun k => if_neg h1) ?_
    by_cases h2 : ((T x.den).size : Int) > 600
    · refine Ev.step (f := fun _ => some (⟨#[]⟩, ⟨#[]⟩, 7)) (fun k => ?_) ?_
      · show cubitref02_Told.j0 (k + 1) (decide (((T x.den).size : Int) > 600)) _ _ _ = _
        rw [decide_eq_true h2]
        simp only [cubitref02_Told.j0]
        rw [if_pos trivial]
      · have : toldR x = (⟨#[]⟩, ⟨#[]⟩, 7) := if_neg (fun h => by have := s2.2 h.2; omega)
        rw [this]; exact Ev.now _
    · have ht : toldR x = (wtext x.num, T x.den, 0) := if_pos ⟨s1.1 (by omega), s2.1 (by omega)⟩
      rw [ht]
      refine Ev.step (f := fun _ => some (wtext x.num, T x.den, 0)) (fun k => ?_) (Ev.now _)
      show cubitref02_Told.j0 (k + 1) (decide (((T x.den).size : Int) > 600)) (decide (x.num < 0)) (T x.num.natAbs) (T x.den) = _
      rw [decide_eq_false h2]
      simp only [cubitref02_Told.j0]
      rw [if_neg (by decide)]
      by_cases hn : x.num < 0
      · rw [if_pos (decide_eq_true hn), if_pos (by omega), wtext_neg hn]
      · rw [if_neg (by simpa using hn), wtext_pos (by omega)]
theorem T_1 : (⟨#[49]⟩ : ByteArray) = T 1 := T_one.symm
theorem T_0 : (⟨#[48]⟩ : ByteArray) = T 0 := T_zero.symm
theorem fr_of (s : Bool) (a b : Nat) (hb : 0 < b) : Fr (Rat.divInt (sgn s a) b) = (s && decide (a ≠ 0), T (a / Nat.gcd a b), T (b / Nat.gcd a b)) := by
  obtain ⟨h1, h2, h3⟩ := fr_lowest s a b hb
  unfold Fr
  rw [h1, h2, h3]
theorem lowest_T (s : Bool) (a b : Nat) (hb : 0 < b) (ha : (T a).size ≤ 137438953472) (hbs : (T b).size ≤ 137438953472) : cubitref02_Lowest.f s (T a) (T b) = some (Fr (Rat.divInt (sgn s a) b)) := by
  unfold cubitref02_Lowest.f
  rw [fr_of s a b hb]
  by_cases h0 : a = 0
  · subst h0
    rw [if_pos (T_is0.2 rfl), T_0, T_1]
    have : b / Nat.gcd 0 b = 1 := by rw [Nat.gcd_zero_left]; exact Nat.div_self hb
    rw [this, Nat.zero_div]
    simp
  · have hg : 0 < Nat.gcd a b := Nat.gcd_pos_of_pos_right _ hb
    have hgs : (T (Nat.gcd a b)).size ≤ 137438953472 := Nat.le_trans (T_size_mono (Nat.le_of_dvd hb (Nat.gcd_dvd_right a b))) hbs
    rw [if_neg (fun e => h0 (T_is0.1 e)), Common_T ha hbs, Option.bind_some, Divide_T ha hgs hg, Option.bind_some, Divide_T hbs hgs hg, Option.bind_some]
    rw [decide_eq_true h0, Bool.and_true]
def spl (a : ByteArray) : Bool × ByteArray := if a.data.toList.head? = some 45 then (true, a.extract 1 a.size) else (false, a)
theorem spl_wtext (s : Bool) (m : Nat) (h : s = true → m ≠ 0) : spl (wtext (sgn s m)) = (s, T m) := by
  have hz : sgn s m = 0 → s = false := fun e => by
    cases s
    · rfl
    · have := h rfl
      simp [sgn] at e
      omega
  unfold spl
  cases s
  · have : wtext (sgn false m) = T m := by rw [wtext_pos (by simp [sgn]), sgn_abs]
    rw [this, if_neg ?_]
    intro e
    rcases hd : (T m).data.toList with _ | ⟨c, t⟩
    · rw [hd] at e; simp at e
    · rw [hd] at e
      injection e with e
      subst e
      exact T_head_ne m t hd
  · have hneg : sgn true m < 0 := by have := h rfl; simp [sgn]; omega
    have hw := wtext_neg_data hneg
    rw [sgn_abs] at hw
    have e : (wtext (sgn true m)).extract 1 (wtext (sgn true m)).size = T m := by
      refine (ba_of_data ?_).trans (ba_of_data rfl).symm
      rw [ByteArray.data_extract, Array.toList_extract, List.extract_eq_take_drop, ← data_length, hw, List.length_cons, List.drop_succ_cons, List.drop_zero, Nat.add_sub_cancel, List.take_length]
    rw [hw, List.head?_cons, if_pos rfl, e]
theorem spl_neg {a : ByteArray} (h : (spl a).1 = true) : a = (⟨#[45]⟩ : ByteArray) ++ (spl a).2 ∧ (spl a).2 = a.extract 1 a.size := by
  unfold spl at h ⊢
  split at h
  · rename_i hh
    rw [if_pos hh]
    refine ⟨?_, rfl⟩
    rcases hd : a.data.toList with _ | ⟨c, t⟩
    · rw [hd] at hh; simp at hh
    · rw [hd] at hh
      injection hh with hh
      subst hh
      refine (ba_of_data hd).trans (ba_of_data ?_).symm
      rw [ByteArray.data_append, Array.toList_append, ByteArray.data_extract, Array.toList_extract, List.extract_eq_take_drop, hd, ← data_length, hd]
      simp
  · cases h
theorem spl_pos {a : ByteArray} (h : (spl a).1 = false) : (spl a).2 = a := by
  unfold spl at h ⊢
  split at h
  · cases h
  · rename_i hh; rw [if_neg hh]
theorem rr_iff (a b : ByteArray) (x : Rat) : RR a b x ↔ ∃ m n : Nat, (spl a).2 = T m ∧ b = T n ∧ m < 10 ^ 600 ∧ n < 10 ^ 600 ∧ 0 < n ∧ Nat.gcd m n = 1 ∧ ((spl a).1 = true → m ≠ 0) ∧ x = Rat.divInt (sgn (spl a).1 m) n := by
  constructor
  · intro h
    have hs : spl a = (decide (x.num < 0), T x.num.natAbs) := by
      rw [h.num]
      conv => lhs; rw [← sgn_of x.num]
      exact spl_wtext _ _ (fun e => by have := of_decide_eq_true e; omega)
    rw [hs]
    refine ⟨x.num.natAbs, x.den, rfl, h.den, h.ln, h.ld, x.den_pos, x.reduced, fun e => by have := of_decide_eq_true e; omega, ?_⟩
    show x = Rat.divInt (sgn (decide (x.num < 0)) x.num.natAbs) x.den
    rw [sgn_of, rat_divInt]
  · rintro ⟨m, n, h1, h2, h3, h4, h5, h6, h7, h8⟩
    obtain ⟨f1, f2, f3⟩ := fr_lowest (spl a).1 m n h5
    rw [h6, Nat.div_one] at f1 f2
    rw [← h8] at f1 f2 f3
    have hnum : x.num = sgn (spl a).1 m := by
      rw [← sgn_of x.num, f1, f3]
      cases hs : (spl a).1
      · rfl
      · rw [decide_eq_true (h7 hs)]; rfl
    refine ⟨?_, by rw [f2]; exact h2, by rw [f1]; exact h3, by rw [f2]; exact h4⟩
    rw [hnum]
    cases hs : (spl a).1
    · rw [wtext_pos (by simp [sgn]), sgn_abs, ← h1]; exact (spl_pos hs).symm
    · rw [wtext_neg (by have := h7 hs; simp [sgn]; omega), sgn_abs, ← h1]; exact (spl_neg hs).1
def coreB (neg : Bool) (t b : ByteArray) : Bool := rightB t && rightB b && decide (b ≠ T 0) && decide (neg = true → t ≠ T 0) && decide (Nat.gcd (dval t.data.toList) (dval b.data.toList) = 1)
theorem core_iff (a b : ByteArray) : coreB (spl a).1 (spl a).2 b = true ↔ ∃ x, RR a b x := by
  unfold coreB
  simp only [Bool.and_eq_true, decide_eq_true_eq]
  constructor
  · rintro ⟨⟨⟨⟨h1, h2⟩, h3⟩, h4⟩, h5⟩
    obtain ⟨m, hm, hm2⟩ := right_iff.1 h1
    obtain ⟨n, hn, hn2⟩ := right_iff.1 h2
    rw [hm, hn, T_dval, T_dval] at h5
    refine ⟨_, (rr_iff a b _).2 ⟨m, n, hm, hn, hm2, hn2, ?_, h5, fun e => ?_, rfl⟩⟩
    · rcases Nat.eq_zero_or_pos n with h0 | h0
      · subst h0; exact absurd hn h3
      · exact h0
    · intro h0; subst h0; exact h4 e hm
  · rintro ⟨x, hx⟩
    obtain ⟨m, n, h1, h2, h3, h4, h5, h6, h7, h8⟩ := (rr_iff a b x).1 hx
    rw [h1, h2, T_dval, T_dval]
    exact ⟨⟨⟨⟨right_iff.2 ⟨m, rfl, h3⟩, right_iff.2 ⟨n, rfl, h4⟩⟩, fun e => by have := T_inj e; omega⟩, fun e e2 => h7 e (T_inj e2)⟩, h6⟩
theorem b48 {s : ByteArray} : s.toList = ([48] : List UInt8) ↔ s = T 0 := by
  rw [ba_toList]
  constructor
  · intro h; rw [T_zero]; exact ba_of_data h
  · rintro rfl; rw [T_zero]
theorem b49 {s : ByteArray} : (s.toList == ([49] : List UInt8)) = decide (s = T 1) := by
  rw [Bool.eq_iff_iff, beq_iff_eq, decide_eq_true_eq, ba_toList]
  constructor
  · intro h; rw [T_one]; exact ba_of_data h
  · rintro rfl; rw [T_one]
theorem right_core (t b : ByteArray) (neg : Bool) (h : neg = true → t ≠ T 0) : ((cubitref01_Right.f t).bind fun t410 => (if t410 = true then ((cubitref01_Right.f b).bind fun t411 => (if t411 = true then (if b.toList = ([48] : List UInt8) then (some false) else ((cubitref01_Common.f t b).bind fun t412 => (some (t412.toList == ([49] : List UInt8))))) else (some false))) else (some false))) = some (coreB neg t b) := by
  unfold cubitref01_Right.f coreB
  rw [Option.bind_some, Option.bind_some]
  cases h1 : rightB t
  · rw [if_neg (by decide)]; simp
  · rw [if_pos rfl]
    cases h2 : rightB b
    · rw [if_neg (by decide)]; simp
    · obtain ⟨m, rfl, hm2⟩ := right_iff.1 h1
      obtain ⟨n, rfl, hn2⟩ := right_iff.1 h2
      have sm := (T_size_le (k := 600) (by decide)).2 hm2
      have sn := (T_size_le (k := 600) (by decide)).2 hn2
      rw [if_pos rfl]
      by_cases h3 : T n = T 0
      · rw [if_pos (b48.2 h3)]; simp [h3]
      · rw [if_neg (fun e => h3 (b48.1 e)), Common_T (by omega) (by omega), Option.bind_some, b49, T_dval, T_dval]
        have e1 : (T (Nat.gcd m n) = T 1) ↔ Nat.gcd m n = 1 := T_eq_iff
        by_cases hn : neg = true
        · have h4 := h hn
          simp [h3, h4, e1]
        · simp [h3, hn, e1]
theorem bt0 {s : ByteArray} (h : 0 < s.size) : (bt s 0 == 45) = (spl s).1 := by
  have hl : 0 < s.data.toList.length := by rw [data_length]; exact h
  have hb := bt_nth s hl
  have hb' : bt s 0 = (s.data.toList[0].toNat : Int) := hb
  have hh : s.data.toList.head? = some s.data.toList[0] := by rw [List.head?_eq_getElem?, List.getElem?_eq_getElem hl]
  unfold spl
  rw [hh, hb']
  by_cases hc : s.data.toList[0] = 45
  · rw [hc, if_pos rfl]; rfl
  · rw [if_neg (fun e => hc (Option.some.inj e))]
    have : (s.data.toList[0].toNat : Int) ≠ 45 := fun e => hc (UInt8.toNat_inj.1 (by
      have h2 : (45 : UInt8).toNat = 45 := rfl
      omega))
    exact beq_eq_false_iff_ne.2 this
theorem spl_empty {s : ByteArray} (h : s.toList = ([] : List UInt8)) : spl s = (false, s) := by
  unfold spl
  rw [ba_toList] at h
  rw [h, if_neg (by simp)]
theorem size_pos_of {s : ByteArray} (h : ¬ s.toList = ([] : List UInt8)) : 0 < s.size := by
  rw [ba_toList] at h
  rw [← data_length]
  exact List.length_pos_iff.2 h
theorem right_j (a b : ByteArray) : Ev (fun k => cubitref02_Right.j0 k a (spl a).1 a b) (coreB (spl a).1 (spl a).2 b) := by
  refine Ev.step (f := fun _ => some (coreB (spl a).1 (spl a).2 b)) (fun k => ?_) (Ev.now _)
  simp only [cubitref02_Right.j0]
  cases hs : (spl a).1
  · rw [if_neg (by decide), spl_pos hs]
    exact right_core a b false (fun e => by cases e)
  · obtain ⟨e1, e2⟩ := spl_neg hs
    have hsz : 1 ≤ (a.size : Int) := by
      have : a.size = 1 + (spl a).2.size := by
        have h := congrArg ByteArray.size e1
        rw [ByteArray.size_append] at h
        exact h
      omega
    rw [if_pos rfl, if_pos hsz, ← e2]
    by_cases h0 : (spl a).2 = T 0
    · rw [if_pos (b48.2 h0)]
      unfold coreB
      rw [h0]; simp
    · rw [if_neg (fun e => h0 (b48.1 e))]
      exact right_core _ b true (fun _ => h0)
theorem right_ev (a b : ByteArray) : Ev (fun k => cubitref02_Right.f k a b) (coreB (spl a).1 (spl a).2 b) := by
  unfold cubitref02_Right.f
  by_cases h : a.toList = ([] : List UInt8)
  · refine Ev.congr (fun k => if_pos h) ?_
    have := right_j a b
    rw [spl_empty h] at this ⊢
    exact this
  · have hp := size_pos_of h
    refine Ev.congr (fun k => (if_neg h).trans (if_pos (by omega))) ?_
    rw [bt0 hp]
    exact right_j a b
theorem dec_of (p : Prop) (i : Decidable p) (b : Bool) (h : b = true ↔ p) : @decide p i = b := by
  cases b
  · exact decide_eq_false (fun e => Bool.noConfusion (h.2 e))
  · exact decide_eq_true (h.1 rfl)
theorem rat_right_f (a b : ByteArray) : rat_Right.f a b = some (coreB (spl a).1 (spl a).2 b) := by
  unfold rat_Right.f
  refine congrArg some ?_
  exact dec_of _ _ _ (core_iff a b)
end Go.Proofs.YtglaeambknhjlaaGreatDoor.Q
end
section
set_option linter.unusedVariables false
namespace Go.Proofs.YtglaeambknhjlaaGreatDoor.Q
open Go.RowKit Go.Proofs.YtglaeambknhjlaaGreatDoorW.PrintWords Go.Proofs.YtglaeambknhjlaaGreatDoor.P
theorem wval_eq (a : ByteArray) : wval a = if rightB (spl a).2 then some (sgn (spl a).1 (dval (spl a).2.data.toList)) else none := by
  cases hr : rightB (spl a).2
  · rw [if_neg (by decide)]
    refine wval_no ?_ ?_
    · rintro ⟨x, hx, hl⟩
      have e : spl a = (decide (x < 0), T x.natAbs) := by
        rw [hx]
        conv => lhs; rw [← sgn_of x]
        exact spl_wtext _ _ (fun e => by have := of_decide_eq_true e; omega)
      have : rightB (spl a).2 = true := right_iff.2 ⟨_, congrArg Prod.snd e, hl⟩
      rw [hr] at this; cases this
    · rintro rfl
      have : (spl ⟨#[45, 48]⟩).2 = T 0 := by rw [T_zero]; rfl
      rw [this, right_iff.2 ⟨0, rfl, Nat.pow_pos (by decide)⟩] at hr
      cases hr
  · rw [if_pos rfl]
    obtain ⟨m, hm, hm2⟩ := right_iff.1 hr
    rw [hm, T_dval]
    cases hs : (spl a).1
    · have : a = wtext (sgn false m) := by rw [wtext_pos (by simp [sgn]), sgn_abs, ← hm]; exact (spl_pos hs).symm
      conv => lhs; rw [this]
      exact wval_yes (by rw [sgn_abs]; exact hm2)
    · by_cases h0 : m = 0
      · subst h0
        have : a = ⟨#[45, 48]⟩ := by rw [(spl_neg hs).1, hm, T_zero]; rfl
        rw [this]
        exact wval_m0
      · have : a = wtext (sgn true m) := by rw [wtext_neg (by simp [sgn]; omega), sgn_abs, ← hm]; exact (spl_neg hs).1
        conv => lhs; rw [this]
        exact wval_yes (by rw [sgn_abs]; exact hm2)
def newV (a b : ByteArray) (r : ByteArray × ByteArray × Int) : Prop := rat_New.f a b = some r ∧ Ev (fun k => cubitref02_New.f k a b) r
theorem rat_new_f (a b : ByteArray) : rat_New.f a b = (if rightB (spl a).2 then (if rightB b then (if b = T 0 then some (⟨#[]⟩, ⟨#[]⟩, 8) else some (toldR (Rat.divInt (sgn (spl a).1 (dval (spl a).2.data.toList)) (dval b.data.toList)))) else some (⟨#[]⟩, ⟨#[]⟩, 3)) else some (⟨#[]⟩, ⟨#[]⟩, 3)) := by
  unfold rat_New.f nval
  rw [wval_eq]
  cases h1 : rightB (spl a).2
  · rfl
  · cases h2 : rightB b
    · rfl
    · obtain ⟨n, rfl, hn⟩ := right_iff.1 h2
      rw [T_dval, if_pos rfl, if_pos rfl, if_pos rfl, if_pos rfl]
      show (if n = 0 then _ else _) = _
      by_cases h0 : n = 0
      · subst h0; rw [if_pos rfl, if_pos rfl]
      · rw [if_neg h0, if_neg (fun e => h0 (T_inj e))]
theorem new_core (t b : ByteArray) (neg : Bool) : Ev (fun k => cubitref02_New.j1 k t b neg) (if rightB t then (if rightB b then (if b = T 0 then (⟨#[]⟩, ⟨#[]⟩, 8) else toldR (Rat.divInt (sgn neg (dval t.data.toList)) (dval b.data.toList))) else (⟨#[]⟩, ⟨#[]⟩, 3)) else (⟨#[]⟩, ⟨#[]⟩, 3)) := by
  cases h1 : rightB t
  · rw [if_neg (by decide)]
    refine Ev.step (f := fun k => cubitref02_New.j2 k t b neg true) (fun k => ?_) ?_
    · simp only [cubitref02_New.j1, cubitref01_Right.f]
      rw [h1, Option.bind_some, if_neg (by decide)]
    · refine Ev.step (f := fun k => some (⟨#[]⟩, ⟨#[]⟩, 3)) (fun k => ?_) (Ev.now _)
      simp only [cubitref02_New.j2]
      rw [if_pos trivial]
  · rw [if_pos rfl]
    refine Ev.step (f := fun k => cubitref02_New.j2 k t b neg (!(rightB b))) (fun k => ?_) ?_
    · simp only [cubitref02_New.j1, cubitref01_Right.f]
      rw [h1, Option.bind_some, if_pos rfl, Option.bind_some]
    · cases h2 : rightB b
      · rw [if_neg (by decide)]
        refine Ev.step (f := fun k => some (⟨#[]⟩, ⟨#[]⟩, 3)) (fun k => ?_) (Ev.now _)
        show cubitref02_New.j2 (k + 1) t b neg true = _
        simp only [cubitref02_New.j2]
        rw [if_pos trivial]
      · rw [if_pos rfl]
        obtain ⟨m, rfl, hm2⟩ := right_iff.1 h1
        obtain ⟨n, rfl, hn2⟩ := right_iff.1 h2
        have sm := (T_size_le (k := 600) (by decide)).2 hm2
        have sn := (T_size_le (k := 600) (by decide)).2 hn2
        rw [T_dval, T_dval]
        by_cases h3 : T n = T 0
        · rw [if_pos h3]
          refine Ev.step (f := fun k => some (⟨#[]⟩, ⟨#[]⟩, 8)) (fun k => ?_) (Ev.now _)
          show cubitref02_New.j2 (k + 1) (T m) (T n) neg false = _
          simp only [cubitref02_New.j2]
          rw [if_neg (by decide), if_pos (b48.2 h3)]
        · rw [if_neg h3]
          have hn0 : 0 < n := by
            rcases Nat.eq_zero_or_pos n with h | h
            · subst h; exact absurd rfl h3
            · exact h
          refine Ev.step (f := fun k => (cubitref02_Told.f k (Fr (Rat.divInt (sgn neg m) n)).1 (Fr (Rat.divInt (sgn neg m) n)).2.1 (Fr (Rat.divInt (sgn neg m) n)).2.2).bind fun bt571 => (some (bt571.1, bt571.2.1, bt571.2.2))) (fun k => ?_) ?_
          · show cubitref02_New.j2 (k + 1) (T m) (T n) neg false = _
            simp only [cubitref02_New.j2]
            rw [if_neg (by decide), if_neg (fun e => h3 (b48.1 e)), lowest_T neg m n hn0 (by omega) (by omega), Option.bind_some]
          · exact Ev.bind (told_ev _) (Ev.now _)
theorem new_j0 (a b : ByteArray) : Ev (fun k => cubitref02_New.j0 k a b (spl a).1) (if rightB (spl a).2 then (if rightB b then (if b = T 0 then (⟨#[]⟩, ⟨#[]⟩, 8) else toldR (Rat.divInt (sgn (spl a).1 (dval (spl a).2.data.toList)) (dval b.data.toList))) else (⟨#[]⟩, ⟨#[]⟩, 3)) else (⟨#[]⟩, ⟨#[]⟩, 3)) := by
  refine Ev.step (f := fun k => cubitref02_New.j1 k (spl a).2 b (spl a).1) (fun k => ?_) (new_core _ _ _)
  simp only [cubitref02_New.j0]
  cases hs : (spl a).1
  · rw [if_neg (by decide), spl_pos hs]
  · obtain ⟨e1, e2⟩ := spl_neg hs
    have hsz : 1 ≤ (a.size : Int) := by
      have : a.size = 1 + (spl a).2.size := by
        have h := congrArg ByteArray.size e1
        rw [ByteArray.size_append] at h
        exact h
      omega
    rw [if_pos rfl, if_pos hsz, ← e2]
theorem new_both (a b : ByteArray) : ∃ r, newV a b r := by
  refine ⟨if rightB (spl a).2 then (if rightB b then (if b = T 0 then (⟨#[]⟩, ⟨#[]⟩, 8) else toldR (Rat.divInt (sgn (spl a).1 (dval (spl a).2.data.toList)) (dval b.data.toList))) else (⟨#[]⟩, ⟨#[]⟩, 3)) else (⟨#[]⟩, ⟨#[]⟩, 3), ?_, ?_⟩
  · rw [rat_new_f]
    repeat' split
    all_goals rfl
  · unfold cubitref02_New.f
    by_cases h : a.toList = ([] : List UInt8)
    · refine Ev.congr (fun k => if_pos h) ?_
      have := new_j0 a b
      rw [spl_empty h] at this ⊢
      exact this
    · have hp := size_pos_of h
      refine Ev.congr (fun k => (if_neg h).trans (if_pos (by omega))) ?_
      rw [bt0 hp]
      exact new_j0 a b
theorem fr_int (n : Int) : Fr (Rat.divInt n 1) = (decide (n < 0), T n.natAbs, T 1) := by
  have h := fr_of (decide (n < 0)) n.natAbs 1 (by decide)
  rw [sgn_of, Nat.gcd_one_right, Nat.div_one, Nat.div_one] at h
  refine h.trans ?_
  by_cases hn : n < 0
  · rw [decide_eq_true hn, decide_eq_true (show n.natAbs ≠ 0 by omega)]; rfl
  · rw [decide_eq_false hn]; rfl
theorem whole_f (n : Int) (h0 : -9223372036854775808 ≤ n) (h1 : n < 9223372036854775808) : cubitref02_Whole.f n = some (Fr (Rat.divInt n 1)) := by
  rw [fr_int]
  unfold cubitref02_Whole.f cubitref01_Of.f
  by_cases hn : n < 0
  · have e : IntKind.u64.wrap ((IntKind.u64.wrap (wrap64 (-(wrap64 (n + 1))))) + 1) = (n.natAbs : Int) := by
      have e1 : wrap64 (n + 1) = n + 1 := by unfold wrap64; omega
      have e2 : wrap64 (-(n + 1)) = -(n + 1) := by unfold wrap64; omega
      rw [e1, e2]
      have e3 : IntKind.u64.wrap (-(n + 1)) = -(n + 1) := u64w (by omega) (by omega)
      rw [e3, u64w (by omega) (by omega)]; omega
    rw [if_pos hn, e, if_pos (by omega), Option.bind_some, Int.toNat_natCast, decide_eq_true hn, T_1]
  · rw [if_neg hn, u64w (by omega) (by omega), if_pos (by omega), Option.bind_some, decide_eq_false hn, T_1]
    have : n.toNat = n.natAbs := by omega
    rw [this]
theorem told_int (n : Int) (h0 : -9223372036854775808 ≤ n) (h1 : n < 9223372036854775808) : toldR (Rat.divInt n 1) = (wtext n, ⟨#[49]⟩, 0) := by
  have hf := fr_int n
  unfold Fr at hf
  have e1 : (Rat.divInt n 1).num = n := by rw [Rat.num_divInt]; simp
  have e2 : (Rat.divInt n 1).den = 1 := by rw [Rat.den_divInt]; simp
  unfold toldR
  have hs : Sm (Rat.divInt n 1) := by
    unfold Sm
    rw [e1, e2]
    have h : (10 : Nat) ^ 20 ≤ 10 ^ 600 := Nat.pow_le_pow_right (by decide) (by decide)
    have h2 : n.natAbs < 10 ^ 20 := by
      have : (10 : Nat) ^ 20 = 100000000000000000000 := by decide
      omega
    have h3 : 1 < (10 : Nat) ^ 20 := by decide
    exact ⟨Nat.lt_of_lt_of_le h2 h, Nat.lt_of_lt_of_le h3 h⟩
  rw [if_pos hs, e1, e2, T_one]
theorem of_ev (n : Int) (h0 : -9223372036854775808 ≤ n) (h1 : n < 9223372036854775808) : Ev (fun k => cubitref02_Of.f k n) (wtext n, ⟨#[49]⟩) := by
  unfold cubitref02_Of.f
  rw [whole_f n h0 h1]
  refine Ev.congr (f := fun k => (cubitref02_Told.f k (Fr (Rat.divInt n 1)).1 (Fr (Rat.divInt n 1)).2.1 (Fr (Rat.divInt n 1)).2.2).bind fun bt578 => (some (bt578.1, bt578.2.1))) (fun k => rfl) ?_
  have h := told_ev (Rat.divInt n 1)
  rw [told_int n h0 h1] at h
  exact Ev.bind h (Ev.now _)
theorem rat_of_f (n : Int) (h0 : -9223372036854775808 ≤ n) (h1 : n < 9223372036854775808) : rat_Of.f n = some (wtext n, ⟨#[49]⟩) := if_pos ⟨h0, h1⟩
end Go.Proofs.YtglaeambknhjlaaGreatDoor.Q
end
section
namespace Go.Proofs.YtglaeambknhjlaaGreatDoor.P
open Go.RowKit Go.Proofs.YtglaeambknhjlaaGreatDoorW.PrintWords Go.Proofs.YtglaeambknhjlaaGreatDoorW.PrintLast Go.Proofs.YtglaeambknhjlaaGreatDoorW.PrintMore
attribute [local go_sem] max2_int min2_int max_two min_two max_three min_three max_four min_four
set_option linter.unusedVariables false
set_option linter.unusedSimpArgs false
def IsS139 (w0 W : World) (g : Nat) (f0 : ByteArray) (f1 : Int) (f2 : Bool) (f3 : Bool) (f4 : ByteArray) (f5 : Int) (f6 : ByteArray) (f7 : Bool) (f8 : ByteArray) (f9 : Bool) (f10 : Int) : Prop := W.heap[g]? = some (.cells #[.string f0, .int .i64 f1, .bool f2, .bool f3, .string f4, .int .i64 f5, .string f6, .bool f7, .string f8, .bool f9, .int .i64 f10] 139 (0, 0)) ∧ w0.heap.size ≤ g
theorem IsS139.grown {w0 W : World} {g : Nat} {f0 : ByteArray} {f1 : Int} {f2 : Bool} {f3 : Bool} {f4 : ByteArray} {f5 : Int} {f6 : ByteArray} {f7 : Bool} {f8 : ByteArray} {f9 : Bool} {f10 : Int} {W1 : World} {row : Option Nat} (h : IsS139 w0 W g f0 f1 f2 f3 f4 f5 f6 f7 f8 f9 f10) (hw : W.grownBy W1 row) (hne : some g ≠ row) : IsS139 w0 W1 g f0 f1 f2 f3 f4 f5 f6 f7 f8 f9 f10 := by
  obtain ⟨hb, hg⟩ := h
  exact ⟨blk_grown hb hw hne, hg⟩
theorem IsS139.kept {w0 W : World} {g : Nat} {f0 : ByteArray} {f1 : Int} {f2 : Bool} {f3 : Bool} {f4 : ByteArray} {f5 : Int} {f6 : ByteArray} {f7 : Bool} {f8 : ByteArray} {f9 : Bool} {f10 : Int} {W1 : World} {S : Nat → Prop} (h : IsS139 w0 W g f0 f1 f2 f3 f4 f5 f6 f7 f8 f9 f10) (hk : Kept W W1 S) (hne : ¬ S g) : IsS139 w0 W1 g f0 f1 f2 f3 f4 f5 f6 f7 f8 f9 f10 := by
  obtain ⟨hb, hg⟩ := h
  exact ⟨blk_kept hb hk hne, hg⟩
theorem IsS139.below {w0 W : World} {g : Nat} {f0 : ByteArray} {f1 : Int} {f2 : Bool} {f3 : Bool} {f4 : ByteArray} {f5 : Int} {f6 : ByteArray} {f7 : Bool} {f8 : ByteArray} {f9 : Bool} {f10 : Int} {W1 : World} (h : IsS139 w0 W g f0 f1 f2 f3 f4 f5 f6 f7 f8 f9 f10) (hw : Below W.heap.size W W1) : IsS139 w0 W1 g f0 f1 f2 f3 f4 f5 f6 f7 f8 f9 f10 := h.grown (grown_of_below hw none) (by simp)
theorem IsS139.alloc {w0 W : World} {g : Nat} {f0 : ByteArray} {f1 : Int} {f2 : Bool} {f3 : Bool} {f4 : ByteArray} {f5 : Int} {f6 : ByteArray} {f7 : Bool} {f8 : ByteArray} {f9 : Bool} {f10 : Int} (h : IsS139 w0 W g f0 f1 f2 f3 f4 f5 f6 f7 f8 f9 f10) (o : Obj) : IsS139 w0 (W.alloc o) g f0 f1 f2 f3 f4 f5 f6 f7 f8 f9 f10 := h.below (below_alloc (Below.refl _ _) o)
theorem IsS139.drewN {w0 W : World} {g : Nat} {f0 : ByteArray} {f1 : Int} {f2 : Bool} {f3 : Bool} {f4 : ByteArray} {f5 : Int} {f6 : ByteArray} {f7 : Bool} {f8 : ByteArray} {f9 : Bool} {f10 : Int} (h : IsS139 w0 W g f0 f1 f2 f3 f4 f5 f6 f7 f8 f9 f10) (m : Nat) : IsS139 w0 (W.drewN m) g f0 f1 f2 f3 f4 f5 f6 f7 f8 f9 f10 := h
theorem IsS139.drew {w0 W : World} {g : Nat} {f0 : ByteArray} {f1 : Int} {f2 : Bool} {f3 : Bool} {f4 : ByteArray} {f5 : Int} {f6 : ByteArray} {f7 : Bool} {f8 : ByteArray} {f9 : Bool} {f10 : Int} (h : IsS139 w0 W g f0 f1 f2 f3 f4 f5 f6 f7 f8 f9 f10) : IsS139 w0 W.drew g f0 f1 f2 f3 f4 f5 f6 f7 f8 f9 f10 := h
theorem IsS139.at_ {w0 W : World} {g : Nat} {f0 : ByteArray} {f1 : Int} {f2 : Bool} {f3 : Bool} {f4 : ByteArray} {f5 : Int} {f6 : ByteArray} {f7 : Bool} {f8 : ByteArray} {f9 : Bool} {f10 : Int} {w' : World} {m : Nat} (hq : W.drewN m = w') (h : IsS139 w0 W g f0 f1 f2 f3 f4 f5 f6 f7 f8 f9 f10) : IsS139 w0 w' g f0 f1 f2 f3 f4 f5 f6 f7 f8 f9 f10 := by subst hq; exact IsS139.drewN h m
theorem IsS139.apart {w0 W : World} {g : Nat} {f0 : ByteArray} {f1 : Int} {f2 : Bool} {f3 : Bool} {f4 : ByteArray} {f5 : Int} {f6 : ByteArray} {f7 : Bool} {f8 : ByteArray} {f9 : Bool} {f10 : Int} {α : Type} {d : Kd α} {e : Nat} {base : Nat} {ok : Nat → Prop} {v : Value} {xs : List α} (h : IsS139 w0 W g f0 f1 f2 f3 f4 f5 f6 f7 f8 f9 f10) (ho : d.R e W base ok v xs) (ht : ∀ q, q ∈ e :: d.E → q ≠ 139) : d.R e W base (fun k => ok k ∧ k ≠ g) v xs := by
  obtain ⟨hb, hg⟩ := h
  exact Kd.R_types ho hb ht
theorem IsS139.own_ne {w0 W : World} {g : Nat} {f0 : ByteArray} {f1 : Int} {f2 : Bool} {f3 : Bool} {f4 : ByteArray} {f5 : Int} {f6 : ByteArray} {f7 : Bool} {f8 : ByteArray} {f9 : Bool} {f10 : Int} {α : Type} {d : Kd α} {e : Nat} {base : Nat} {ok : Nat → Prop} {v : Value} {xs : List α} (h : IsS139 w0 W g f0 f1 f2 f3 f4 f5 f6 f7 f8 f9 f10) (ho : d.R e W base ok v xs) (ht : e ≠ 139) : some g ≠ v.ownBlock := by
  obtain ⟨hb, hg⟩ := h
  exact Kd.R_ne ho hb ht
theorem IsS139.lt {w0 W : World} {g : Nat} {f0 : ByteArray} {f1 : Int} {f2 : Bool} {f3 : Bool} {f4 : ByteArray} {f5 : Int} {f6 : ByteArray} {f7 : Bool} {f8 : ByteArray} {f9 : Bool} {f10 : Int} (h : IsS139 w0 W g f0 f1 f2 f3 f4 f5 f6 f7 f8 f9 f10) : g < W.heap.size := by
  obtain ⟨hb, hg⟩ := h
  exact blk_lt hb
theorem IsS139.ge {w0 W : World} {g : Nat} {f0 : ByteArray} {f1 : Int} {f2 : Bool} {f3 : Bool} {f4 : ByteArray} {f5 : Int} {f6 : ByteArray} {f7 : Bool} {f8 : ByteArray} {f9 : Bool} {f10 : Int} (h : IsS139 w0 W g f0 f1 f2 f3 f4 f5 f6 f7 f8 f9 f10) : w0.heap.size ≤ g := by
  obtain ⟨hb, hg⟩ := h
  exact hg
theorem cellS139_0 {W : World} {g : Nat} {f0 : ByteArray} {f1 : Int} {f2 : Bool} {f3 : Bool} {f4 : ByteArray} {f5 : Int} {f6 : ByteArray} {f7 : Bool} {f8 : ByteArray} {f9 : Bool} {f10 : Int} (h : W.heap[g]? = some (.cells #[.string f0, .int .i64 f1, .bool f2, .bool f3, .string f4, .int .i64 f5, .string f6, .bool f7, .string f8, .bool f9, .int .i64 f10] 139 (0, 0))) : W.cell? ⟨g, 0, none⟩ = some (.string f0) := (blk_cell h 0).trans rfl
theorem IsS139.set_0 {w0 W : World} {g : Nat} {f0 : ByteArray} {f1 : Int} {f2 : Bool} {f3 : Bool} {f4 : ByteArray} {f5 : Int} {f6 : ByteArray} {f7 : Bool} {f8 : ByteArray} {f9 : Bool} {f10 : Int} (h : IsS139 w0 W g f0 f1 f2 f3 f4 f5 f6 f7 f8 f9 f10) (x : ByteArray) : IsS139 w0 (W.setCell ⟨g, 0, none⟩ (.string x)) g x f1 f2 f3 f4 f5 f6 f7 f8 f9 f10 := by
  obtain ⟨hb, hg⟩ := h
  exact ⟨by simpa using blk_set hb 0 (.string x), hg⟩
theorem cellS139_1 {W : World} {g : Nat} {f0 : ByteArray} {f1 : Int} {f2 : Bool} {f3 : Bool} {f4 : ByteArray} {f5 : Int} {f6 : ByteArray} {f7 : Bool} {f8 : ByteArray} {f9 : Bool} {f10 : Int} (h : W.heap[g]? = some (.cells #[.string f0, .int .i64 f1, .bool f2, .bool f3, .string f4, .int .i64 f5, .string f6, .bool f7, .string f8, .bool f9, .int .i64 f10] 139 (0, 0))) : W.cell? ⟨g, 1, none⟩ = some (.int .i64 f1) := (blk_cell h 1).trans rfl
theorem IsS139.set_1 {w0 W : World} {g : Nat} {f0 : ByteArray} {f1 : Int} {f2 : Bool} {f3 : Bool} {f4 : ByteArray} {f5 : Int} {f6 : ByteArray} {f7 : Bool} {f8 : ByteArray} {f9 : Bool} {f10 : Int} (h : IsS139 w0 W g f0 f1 f2 f3 f4 f5 f6 f7 f8 f9 f10) (x : Int) : IsS139 w0 (W.setCell ⟨g, 1, none⟩ (.int .i64 x)) g f0 x f2 f3 f4 f5 f6 f7 f8 f9 f10 := by
  obtain ⟨hb, hg⟩ := h
  exact ⟨by simpa using blk_set hb 1 (.int .i64 x), hg⟩
theorem cellS139_2 {W : World} {g : Nat} {f0 : ByteArray} {f1 : Int} {f2 : Bool} {f3 : Bool} {f4 : ByteArray} {f5 : Int} {f6 : ByteArray} {f7 : Bool} {f8 : ByteArray} {f9 : Bool} {f10 : Int} (h : W.heap[g]? = some (.cells #[.string f0, .int .i64 f1, .bool f2, .bool f3, .string f4, .int .i64 f5, .string f6, .bool f7, .string f8, .bool f9, .int .i64 f10] 139 (0, 0))) : W.cell? ⟨g, 2, none⟩ = some (.bool f2) := (blk_cell h 2).trans rfl
theorem IsS139.set_2 {w0 W : World} {g : Nat} {f0 : ByteArray} {f1 : Int} {f2 : Bool} {f3 : Bool} {f4 : ByteArray} {f5 : Int} {f6 : ByteArray} {f7 : Bool} {f8 : ByteArray} {f9 : Bool} {f10 : Int} (h : IsS139 w0 W g f0 f1 f2 f3 f4 f5 f6 f7 f8 f9 f10) (x : Bool) : IsS139 w0 (W.setCell ⟨g, 2, none⟩ (.bool x)) g f0 f1 x f3 f4 f5 f6 f7 f8 f9 f10 := by
  obtain ⟨hb, hg⟩ := h
  exact ⟨by simpa using blk_set hb 2 (.bool x), hg⟩
theorem cellS139_3 {W : World} {g : Nat} {f0 : ByteArray} {f1 : Int} {f2 : Bool} {f3 : Bool} {f4 : ByteArray} {f5 : Int} {f6 : ByteArray} {f7 : Bool} {f8 : ByteArray} {f9 : Bool} {f10 : Int} (h : W.heap[g]? = some (.cells #[.string f0, .int .i64 f1, .bool f2, .bool f3, .string f4, .int .i64 f5, .string f6, .bool f7, .string f8, .bool f9, .int .i64 f10] 139 (0, 0))) : W.cell? ⟨g, 3, none⟩ = some (.bool f3) := (blk_cell h 3).trans rfl
theorem IsS139.set_3 {w0 W : World} {g : Nat} {f0 : ByteArray} {f1 : Int} {f2 : Bool} {f3 : Bool} {f4 : ByteArray} {f5 : Int} {f6 : ByteArray} {f7 : Bool} {f8 : ByteArray} {f9 : Bool} {f10 : Int} (h : IsS139 w0 W g f0 f1 f2 f3 f4 f5 f6 f7 f8 f9 f10) (x : Bool) : IsS139 w0 (W.setCell ⟨g, 3, none⟩ (.bool x)) g f0 f1 f2 x f4 f5 f6 f7 f8 f9 f10 := by
  obtain ⟨hb, hg⟩ := h
  exact ⟨by simpa using blk_set hb 3 (.bool x), hg⟩
theorem cellS139_4 {W : World} {g : Nat} {f0 : ByteArray} {f1 : Int} {f2 : Bool} {f3 : Bool} {f4 : ByteArray} {f5 : Int} {f6 : ByteArray} {f7 : Bool} {f8 : ByteArray} {f9 : Bool} {f10 : Int} (h : W.heap[g]? = some (.cells #[.string f0, .int .i64 f1, .bool f2, .bool f3, .string f4, .int .i64 f5, .string f6, .bool f7, .string f8, .bool f9, .int .i64 f10] 139 (0, 0))) : W.cell? ⟨g, 4, none⟩ = some (.string f4) := (blk_cell h 4).trans rfl
theorem IsS139.set_4 {w0 W : World} {g : Nat} {f0 : ByteArray} {f1 : Int} {f2 : Bool} {f3 : Bool} {f4 : ByteArray} {f5 : Int} {f6 : ByteArray} {f7 : Bool} {f8 : ByteArray} {f9 : Bool} {f10 : Int} (h : IsS139 w0 W g f0 f1 f2 f3 f4 f5 f6 f7 f8 f9 f10) (x : ByteArray) : IsS139 w0 (W.setCell ⟨g, 4, none⟩ (.string x)) g f0 f1 f2 f3 x f5 f6 f7 f8 f9 f10 := by
  obtain ⟨hb, hg⟩ := h
  exact ⟨by simpa using blk_set hb 4 (.string x), hg⟩
theorem cellS139_5 {W : World} {g : Nat} {f0 : ByteArray} {f1 : Int} {f2 : Bool} {f3 : Bool} {f4 : ByteArray} {f5 : Int} {f6 : ByteArray} {f7 : Bool} {f8 : ByteArray} {f9 : Bool} {f10 : Int} (h : W.heap[g]? = some (.cells #[.string f0, .int .i64 f1, .bool f2, .bool f3, .string f4, .int .i64 f5, .string f6, .bool f7, .string f8, .bool f9, .int .i64 f10] 139 (0, 0))) : W.cell? ⟨g, 5, none⟩ = some (.int .i64 f5) := (blk_cell h 5).trans rfl
theorem IsS139.set_5 {w0 W : World} {g : Nat} {f0 : ByteArray} {f1 : Int} {f2 : Bool} {f3 : Bool} {f4 : ByteArray} {f5 : Int} {f6 : ByteArray} {f7 : Bool} {f8 : ByteArray} {f9 : Bool} {f10 : Int} (h : IsS139 w0 W g f0 f1 f2 f3 f4 f5 f6 f7 f8 f9 f10) (x : Int) : IsS139 w0 (W.setCell ⟨g, 5, none⟩ (.int .i64 x)) g f0 f1 f2 f3 f4 x f6 f7 f8 f9 f10 := by
  obtain ⟨hb, hg⟩ := h
  exact ⟨by simpa using blk_set hb 5 (.int .i64 x), hg⟩
theorem cellS139_6 {W : World} {g : Nat} {f0 : ByteArray} {f1 : Int} {f2 : Bool} {f3 : Bool} {f4 : ByteArray} {f5 : Int} {f6 : ByteArray} {f7 : Bool} {f8 : ByteArray} {f9 : Bool} {f10 : Int} (h : W.heap[g]? = some (.cells #[.string f0, .int .i64 f1, .bool f2, .bool f3, .string f4, .int .i64 f5, .string f6, .bool f7, .string f8, .bool f9, .int .i64 f10] 139 (0, 0))) : W.cell? ⟨g, 6, none⟩ = some (.string f6) := (blk_cell h 6).trans rfl
theorem IsS139.set_6 {w0 W : World} {g : Nat} {f0 : ByteArray} {f1 : Int} {f2 : Bool} {f3 : Bool} {f4 : ByteArray} {f5 : Int} {f6 : ByteArray} {f7 : Bool} {f8 : ByteArray} {f9 : Bool} {f10 : Int} (h : IsS139 w0 W g f0 f1 f2 f3 f4 f5 f6 f7 f8 f9 f10) (x : ByteArray) : IsS139 w0 (W.setCell ⟨g, 6, none⟩ (.string x)) g f0 f1 f2 f3 f4 f5 x f7 f8 f9 f10 := by
  obtain ⟨hb, hg⟩ := h
  exact ⟨by simpa using blk_set hb 6 (.string x), hg⟩
theorem cellS139_7 {W : World} {g : Nat} {f0 : ByteArray} {f1 : Int} {f2 : Bool} {f3 : Bool} {f4 : ByteArray} {f5 : Int} {f6 : ByteArray} {f7 : Bool} {f8 : ByteArray} {f9 : Bool} {f10 : Int} (h : W.heap[g]? = some (.cells #[.string f0, .int .i64 f1, .bool f2, .bool f3, .string f4, .int .i64 f5, .string f6, .bool f7, .string f8, .bool f9, .int .i64 f10] 139 (0, 0))) : W.cell? ⟨g, 7, none⟩ = some (.bool f7) := (blk_cell h 7).trans rfl
theorem IsS139.set_7 {w0 W : World} {g : Nat} {f0 : ByteArray} {f1 : Int} {f2 : Bool} {f3 : Bool} {f4 : ByteArray} {f5 : Int} {f6 : ByteArray} {f7 : Bool} {f8 : ByteArray} {f9 : Bool} {f10 : Int} (h : IsS139 w0 W g f0 f1 f2 f3 f4 f5 f6 f7 f8 f9 f10) (x : Bool) : IsS139 w0 (W.setCell ⟨g, 7, none⟩ (.bool x)) g f0 f1 f2 f3 f4 f5 f6 x f8 f9 f10 := by
  obtain ⟨hb, hg⟩ := h
  exact ⟨by simpa using blk_set hb 7 (.bool x), hg⟩
theorem cellS139_8 {W : World} {g : Nat} {f0 : ByteArray} {f1 : Int} {f2 : Bool} {f3 : Bool} {f4 : ByteArray} {f5 : Int} {f6 : ByteArray} {f7 : Bool} {f8 : ByteArray} {f9 : Bool} {f10 : Int} (h : W.heap[g]? = some (.cells #[.string f0, .int .i64 f1, .bool f2, .bool f3, .string f4, .int .i64 f5, .string f6, .bool f7, .string f8, .bool f9, .int .i64 f10] 139 (0, 0))) : W.cell? ⟨g, 8, none⟩ = some (.string f8) := (blk_cell h 8).trans rfl
theorem IsS139.set_8 {w0 W : World} {g : Nat} {f0 : ByteArray} {f1 : Int} {f2 : Bool} {f3 : Bool} {f4 : ByteArray} {f5 : Int} {f6 : ByteArray} {f7 : Bool} {f8 : ByteArray} {f9 : Bool} {f10 : Int} (h : IsS139 w0 W g f0 f1 f2 f3 f4 f5 f6 f7 f8 f9 f10) (x : ByteArray) : IsS139 w0 (W.setCell ⟨g, 8, none⟩ (.string x)) g f0 f1 f2 f3 f4 f5 f6 f7 x f9 f10 := by
  obtain ⟨hb, hg⟩ := h
  exact ⟨by simpa using blk_set hb 8 (.string x), hg⟩
theorem cellS139_9 {W : World} {g : Nat} {f0 : ByteArray} {f1 : Int} {f2 : Bool} {f3 : Bool} {f4 : ByteArray} {f5 : Int} {f6 : ByteArray} {f7 : Bool} {f8 : ByteArray} {f9 : Bool} {f10 : Int} (h : W.heap[g]? = some (.cells #[.string f0, .int .i64 f1, .bool f2, .bool f3, .string f4, .int .i64 f5, .string f6, .bool f7, .string f8, .bool f9, .int .i64 f10] 139 (0, 0))) : W.cell? ⟨g, 9, none⟩ = some (.bool f9) := (blk_cell h 9).trans rfl
theorem IsS139.set_9 {w0 W : World} {g : Nat} {f0 : ByteArray} {f1 : Int} {f2 : Bool} {f3 : Bool} {f4 : ByteArray} {f5 : Int} {f6 : ByteArray} {f7 : Bool} {f8 : ByteArray} {f9 : Bool} {f10 : Int} (h : IsS139 w0 W g f0 f1 f2 f3 f4 f5 f6 f7 f8 f9 f10) (x : Bool) : IsS139 w0 (W.setCell ⟨g, 9, none⟩ (.bool x)) g f0 f1 f2 f3 f4 f5 f6 f7 f8 x f10 := by
  obtain ⟨hb, hg⟩ := h
  exact ⟨by simpa using blk_set hb 9 (.bool x), hg⟩
theorem cellS139_10 {W : World} {g : Nat} {f0 : ByteArray} {f1 : Int} {f2 : Bool} {f3 : Bool} {f4 : ByteArray} {f5 : Int} {f6 : ByteArray} {f7 : Bool} {f8 : ByteArray} {f9 : Bool} {f10 : Int} (h : W.heap[g]? = some (.cells #[.string f0, .int .i64 f1, .bool f2, .bool f3, .string f4, .int .i64 f5, .string f6, .bool f7, .string f8, .bool f9, .int .i64 f10] 139 (0, 0))) : W.cell? ⟨g, 10, none⟩ = some (.int .i64 f10) := (blk_cell h 10).trans rfl
theorem IsS139.set_10 {w0 W : World} {g : Nat} {f0 : ByteArray} {f1 : Int} {f2 : Bool} {f3 : Bool} {f4 : ByteArray} {f5 : Int} {f6 : ByteArray} {f7 : Bool} {f8 : ByteArray} {f9 : Bool} {f10 : Int} (h : IsS139 w0 W g f0 f1 f2 f3 f4 f5 f6 f7 f8 f9 f10) (x : Int) : IsS139 w0 (W.setCell ⟨g, 10, none⟩ (.int .i64 x)) g f0 f1 f2 f3 f4 f5 f6 f7 f8 f9 x := by
  obtain ⟨hb, hg⟩ := h
  exact ⟨by simpa using blk_set hb 10 (.int .i64 x), hg⟩
theorem IsS139.new (w0 W : World) (f0 : ByteArray) (f1 : Int) (f2 : Bool) (f3 : Bool) (f4 : ByteArray) (f5 : Int) (f6 : ByteArray) (f7 : Bool) (f8 : ByteArray) (f9 : Bool) (f10 : Int) (hB : Below w0.heap.size w0 W) : IsS139 w0 (W.alloc (.cells #[.string f0, .int .i64 f1, .bool f2, .bool f3, .string f4, .int .i64 f5, .string f6, .bool f7, .string f8, .bool f9, .int .i64 f10] 139)) W.heap.size f0 f1 f2 f3 f4 f5 f6 f7 f8 f9 f10 := ⟨by simpa using heap_alloc_new W _, hB.size⟩
def rat_form_digits.l0 : Nat → Int → ByteArray → Int → Bool → Bool → ByteArray → Int → ByteArray → Bool → ByteArray → Bool → Int → Option (ByteArray × ByteArray × Int × Bool × Bool × ByteArray × Int × ByteArray × Bool × ByteArray × Bool × Int)
  | 0, _, _, _, _, _, _, _, _, _, _, _, _ => none
  | k + 1, x3, x1000, x1001, x1002, x1003, x1004, x1005, x1006, x1007, x1008, x1009, x1010 => if x1001 < (x1000.size : Int) then (if 0 ≤ x1001 then (if (bt x1000 x1001) ≥ 48 then (if (bt x1000 x1001) ≤ 57 then (rat_form_digits.l0 k x3 x1000 (wrap64 (x1001 + 1)) x1002 x1003 x1004 x1005 x1006 x1007 x1008 x1009 x1010) else (if x1002 = true then (if 0 ≤ x3 then (if x3 ≤ x1001 then (if x1001 ≤ (x1000.size : Int) then (some (x1000.extract (x3 : Int).toNat (x1001 : Int).toNat, x1000, x1001, true, x1003, x1004, x1005, x1006, x1007, x1008, x1009, x1010)) else (none)) else (none)) else (none)) else (if 0 ≤ x3 then (if x3 ≤ x1001 then (if x1001 ≤ (x1000.size : Int) then (some (x1000.extract (x3 : Int).toNat (x1001 : Int).toNat, x1000, x1001, (x1001 == x3), x1003, x1004, x1005, x1006, x1007, x1008, x1009, x1010)) else (none)) else (none)) else (none)))) else (if x1002 = true then (if 0 ≤ x3 then (if x3 ≤ x1001 then (if x1001 ≤ (x1000.size : Int) then (some (x1000.extract (x3 : Int).toNat (x1001 : Int).toNat, x1000, x1001, true, x1003, x1004, x1005, x1006, x1007, x1008, x1009, x1010)) else (none)) else (none)) else (none)) else (if 0 ≤ x3 then (if x3 ≤ x1001 then (if x1001 ≤ (x1000.size : Int) then (some (x1000.extract (x3 : Int).toNat (x1001 : Int).toNat, x1000, x1001, (x1001 == x3), x1003, x1004, x1005, x1006, x1007, x1008, x1009, x1010)) else (none)) else (none)) else (none)))) else (none)) else (if x1002 = true then (if 0 ≤ x3 then (if x3 ≤ x1001 then (if x1001 ≤ (x1000.size : Int) then (some (x1000.extract (x3 : Int).toNat (x1001 : Int).toNat, x1000, x1001, true, x1003, x1004, x1005, x1006, x1007, x1008, x1009, x1010)) else (none)) else (none)) else (none)) else (if 0 ≤ x3 then (if x3 ≤ x1001 then (if x1001 ≤ (x1000.size : Int) then (some (x1000.extract (x3 : Int).toNat (x1001 : Int).toNat, x1000, x1001, (x1001 == x3), x1003, x1004, x1005, x1006, x1007, x1008, x1009, x1010)) else (none)) else (none)) else (none)))
def rat_form_digits.f (k : Nat) (s0_0 : ByteArray) (s0_1 : Int) (s0_2 : Bool) (s0_3 : Bool) (s0_4 : ByteArray) (s0_5 : Int) (s0_6 : ByteArray) (s0_7 : Bool) (s0_8 : ByteArray) (s0_9 : Bool) (s0_10 : Int) : Option (ByteArray × ByteArray × Int × Bool × Bool × ByteArray × Int × ByteArray × Bool × ByteArray × Bool × Int) := rat_form_digits.l0 k s0_1 s0_0 s0_1 s0_2 s0_3 s0_4 s0_5 s0_6 s0_7 s0_8 s0_9 s0_10
set_option maxHeartbeats 8000000 in
set_option maxRecDepth 100000 in
theorem rat_form_digits.calls (k : Nat) (g : Nat) (s0_0 : ByteArray) (s0_1 : Int) (s0_2 : Bool) (s0_3 : Bool) (s0_4 : ByteArray) (s0_5 : Int) (s0_6 : ByteArray) (s0_7 : Bool) (s0_8 : ByteArray) (s0_9 : Bool) (s0_10 : Int) (r1 : ByteArray) (r2 : ByteArray) (r3 : Int) (r4 : Bool) (r5 : Bool) (r6 : ByteArray) (r7 : Int) (r8 : ByteArray) (r9 : Bool) (r10 : ByteArray) (r11 : Bool) (r12 : Int) (w0 w : World) (hI : IsS139 w0 w g s0_0 s0_1 s0_2 s0_3 s0_4 s0_5 s0_6 s0_7 s0_8 s0_9 s0_10) (hB : Below w0.heap.size w0 w) (h : rat_form_digits.f k s0_0 s0_1 s0_2 s0_3 s0_4 s0_5 s0_6 s0_7 s0_8 s0_9 s0_10 = some (r1, r2, r3, r4, r5, r6, r7, r8, r9, r10, r11, r12)) :
    Calls Tryz.prog 212 #[.pointer (some ⟨g, 0, none⟩)] w fun e w' => e = .returned (.string r1) ∧ IsS139 w0 w' g r2 r3 r4 r5 r6 r7 r8 r9 r10 r11 r12 ∧ Below w0.heap.size w0 w' ∧ KeepBut w w' g none := by
  have HI0 := Aside0.mk hI
  have HK := Aside0.mk (KeepBut.refl w g none)
  have HL := Aside0.mk hB.size
  clear hI
  have HW0 := Aside0.mk hB.size
  have HB := Aside0.mk hB
  clear hB
  have H : (rat_form_digits.l0 k s0_1 s0_0 s0_1 s0_2 s0_3 s0_4 s0_5 s0_6 s0_7 s0_8 s0_9 s0_10) = some (r1, r2, r3, r4, r5, r6, r7, r8, r9, r10, r11, r12) := h
  clear h
  have H' := Aside0.mk H
  clear H
  obtain ⟨HGz2, hgz2⟩ := HI0.out
  have hcz2_0 := cellS139_0 HGz2
  have hcz2_1 := cellS139_1 HGz2
  have hcz2_2 := cellS139_2 HGz2
  have hcz2_3 := cellS139_3 HGz2
  have hcz2_4 := cellS139_4 HGz2
  have hcz2_5 := cellS139_5 HGz2
  have hcz2_6 := cellS139_6 HGz2
  have hcz2_7 := cellS139_7 HGz2
  have hcz2_8 := cellS139_8 HGz2
  have hcz2_9 := cellS139_9 HGz2
  have hcz2_10 := cellS139_10 HGz2
  have hfz2_0 := blk_frozen HGz2 0
  have hfz2_1 := blk_frozen HGz2 1
  have hfz2_2 := blk_frozen HGz2 2
  have hfz2_3 := blk_frozen HGz2 3
  have hfz2_4 := blk_frozen HGz2 4
  have hfz2_5 := blk_frozen HGz2 5
  have hfz2_6 := blk_frozen HGz2 6
  have hfz2_7 := blk_frozen HGz2 7
  have hfz2_8 := blk_frozen HGz2 8
  have hfz2_9 := blk_frozen HGz2 9
  have hfz2_10 := blk_frozen HGz2 10
  clear HGz2 hgz2
  go_enter Tryz.func212, Tryz.ntmps212
  go_wp2
  repeat (go_quiet (fail); try go_wp2)
  go_loopg [] k (fun kq w' => ∃ (x1001_1 : Int), Aside0 (rat_form_digits.l0 kq s0_1 s0_0 x1001_1 s0_2 s0_3 s0_4 s0_5 s0_6 s0_7 s0_8 s0_9 s0_10 = some (r1, r2, r3, r4, r5, r6, r7, r8, r9, r10, r11, r12)) ∧ Aside0 (kq ≤ k) ∧ Aside0 (IsS139 w0 w' g s0_0 x1001_1 s0_2 s0_3 s0_4 s0_5 s0_6 s0_7 s0_8 s0_9 s0_10) ∧ Aside0 (KeepBut w w' g none) ∧ Aside0 (Below w0.heap.size w0 w'))
  case atStart => exact ⟨(s0_1), H', ⟨Nat.le_refl _⟩, ⟨by repeat (first | (with_reducible first | exact HI0.out | apply IsS139.alloc | apply IsS139.drewN | apply IsS139.drew | apply IsS139.set_0 | apply IsS139.set_1 | apply IsS139.set_2 | apply IsS139.set_3 | apply IsS139.set_4 | apply IsS139.set_5 | apply IsS139.set_6 | apply IsS139.set_7 | apply IsS139.set_8 | apply IsS139.set_9 | apply IsS139.set_10) | exact HI0.out)⟩, ⟨by repeat (first | (with_reducible first | exact HK.out | apply KeepBut.set_ | apply keep_drewN | apply keep_drew | apply keep_alloc) | exact HK.out)⟩, ⟨by repeat (first | (with_reducible first | exact HB.out | apply below_alloc | apply pw_below_drewN | apply below_drew1 | refine below_set ?_ (IsS139.ge HI0.out)) | exact HB.out)⟩⟩
  case round =>
    clear H'
    try clear c2
    try clear p2
    try clear hcz2_0
    try clear hcz2_1
    try clear hcz2_10
    try clear hcz2_2
    try clear hcz2_3
    try clear hcz2_4
    try clear hcz2_5
    try clear hcz2_6
    try clear hcz2_7
    try clear hcz2_8
    try clear hcz2_9
    try clear hfz2_0
    try clear hfz2_1
    try clear hfz2_10
    try clear hfz2_2
    try clear hfz2_3
    try clear hfz2_4
    try clear hfz2_5
    try clear hfz2_6
    try clear hfz2_7
    try clear hfz2_8
    try clear hfz2_9
    obtain ⟨x1001_1, HA, HK1, HI0, HK, HB⟩ := hrel
    cases gk with
    | zero => exact absurd HA.out (by simp [rat_form_digits.l0])
    | succ k1 =>
      have H := HA.out
      clear HA
      simp only [rat_form_digits.l0] at H
      by_cases c3 : x1001_1 < (s0_0.size : Int)
      · rw [if_pos c3] at H
        have c3b0 : decide (x1001_1 < (s0_0.size : Int)) = true := decide_eq_true c3
        clear c3
        by_cases c4 : 0 ≤ x1001_1
        · rw [if_pos c4] at H
          have c4b0 : decide (0 ≤ x1001_1) = true := decide_eq_true c4
          clear c4
          by_cases c6 : (bt s0_0 x1001_1) ≥ 48
          · rw [if_pos c6] at H
            have c6b0 : decide (48 ≤ (bt s0_0 x1001_1)) = true := decide_eq_true c6
            clear c6
            by_cases c8 : (bt s0_0 x1001_1) ≤ 57
            · rw [if_pos c8] at H
              have c8b0 : decide ((bt s0_0 x1001_1) ≤ 57) = true := decide_eq_true c8
              clear c8
              have H' := Aside0.mk H
              clear H
              obtain ⟨HGz9, hgz9⟩ := HI0.out
              have hcz9_0 := cellS139_0 HGz9
              have hcz9_1 := cellS139_1 HGz9
              have hcz9_2 := cellS139_2 HGz9
              have hcz9_3 := cellS139_3 HGz9
              have hcz9_4 := cellS139_4 HGz9
              have hcz9_5 := cellS139_5 HGz9
              have hcz9_6 := cellS139_6 HGz9
              have hcz9_7 := cellS139_7 HGz9
              have hcz9_8 := cellS139_8 HGz9
              have hcz9_9 := cellS139_9 HGz9
              have hcz9_10 := cellS139_10 HGz9
              have hfz9_0 := blk_frozen HGz9 0
              have hfz9_1 := blk_frozen HGz9 1
              have hfz9_2 := blk_frozen HGz9 2
              have hfz9_3 := blk_frozen HGz9 3
              have hfz9_4 := blk_frozen HGz9 4
              have hfz9_5 := blk_frozen HGz9 5
              have hfz9_6 := blk_frozen HGz9 6
              have hfz9_7 := blk_frozen HGz9 7
              have hfz9_8 := blk_frozen HGz9 8
              have hfz9_9 := blk_frozen HGz9 9
              have hfz9_10 := blk_frozen HGz9 10
              clear HGz9 hgz9
              have p5 : 0 ≤ (x1001_1 : Int) := of_decide_eq_true (by first | (with_reducible assumption) | assumption)
              have q5 : x1001_1 < (s0_0.size : Int) := of_decide_eq_true (by first | (with_reducible assumption) | assumption)
              have hx5 := bt_at s0_0 x1001_1
              replace p5 := eq_true p5
              replace q5 := eq_true q5
              have p7 : 0 ≤ (x1001_1 : Int) := of_decide_eq_true (by first | (with_reducible assumption) | assumption)
              have q7 : x1001_1 < (s0_0.size : Int) := of_decide_eq_true (by first | (with_reducible assumption) | assumption)
              have hx7 := bt_at s0_0 x1001_1
              replace p7 := eq_true p7
              replace q7 := eq_true q7
              go_wp2
              repeat (go_quiet (fail); try go_wp2)
              go_roundg k1
              case measure => have := HK1.out; omega
              case rel => exact ⟨(wrap64 (x1001_1 + 1)), H', ⟨by have := HK1.out; omega⟩, ⟨by repeat (first | (with_reducible first | exact HI0.out | apply IsS139.alloc | apply IsS139.drewN | apply IsS139.drew | apply IsS139.set_0 | apply IsS139.set_1 | apply IsS139.set_2 | apply IsS139.set_3 | apply IsS139.set_4 | apply IsS139.set_5 | apply IsS139.set_6 | apply IsS139.set_7 | apply IsS139.set_8 | apply IsS139.set_9 | apply IsS139.set_10) | exact HI0.out)⟩, ⟨by repeat (first | (with_reducible first | exact HK.out | apply KeepBut.set_ | apply keep_drewN | apply keep_drew | apply keep_alloc) | exact HK.out)⟩, ⟨by repeat (first | (with_reducible first | exact HB.out | apply below_alloc | apply pw_below_drewN | apply below_drew1 | refine below_set ?_ (IsS139.ge HI0.out)) | exact HB.out)⟩⟩
            · rw [if_neg c8] at H
              have c8b0 : decide ((bt s0_0 x1001_1) ≤ 57) = false := decide_eq_false c8
              clear c8
              by_cases c10 : s0_2 = true
              · subst c10
                have H1 : (if 0 ≤ s0_1 then (if s0_1 ≤ x1001_1 then (if x1001_1 ≤ (s0_0.size : Int) then (some (s0_0.extract (s0_1 : Int).toNat (x1001_1 : Int).toNat, s0_0, x1001_1, true, s0_3, s0_4, s0_5, s0_6, s0_7, s0_8, s0_9, s0_10)) else (none)) else (none)) else (none)) = some (r1, r2, r3, r4, r5, r6, r7, r8, r9, r10, r11, r12) := by rw [if_pos rfl] at H; exact H
                clear H
                have H := H1
                clear H1
                by_cases c11 : 0 ≤ s0_1
                · rw [if_pos c11] at H
                  have c11b0 := eq_true c11
                  have c11b1 : decide (0 ≤ s0_1) = true := decide_eq_true c11
                  clear c11
                  by_cases c12 : s0_1 ≤ x1001_1
                  · rw [if_pos c12] at H
                    have c12b0 := eq_true c12
                    have c12b1 : decide (s0_1 ≤ x1001_1) = true := decide_eq_true c12
                    clear c12
                    by_cases c13 : x1001_1 ≤ (s0_0.size : Int)
                    · rw [if_pos c13] at H
                      have c13b0 := eq_true c13
                      have c13b1 : decide (x1001_1 ≤ (s0_0.size : Int)) = true := decide_eq_true c13
                      clear c13
                      simp only [Option.some.injEq, Prod.mk.injEq] at H
                      obtain ⟨rfl, rfl, rfl, rfl, rfl, rfl, rfl, rfl, rfl, rfl, rfl, rfl⟩ := H
                      obtain ⟨HGz14, hgz14⟩ := HI0.out
                      have hcz14_0 := cellS139_0 HGz14
                      have hcz14_1 := cellS139_1 HGz14
                      have hcz14_2 := cellS139_2 HGz14
                      have hcz14_3 := cellS139_3 HGz14
                      have hcz14_4 := cellS139_4 HGz14
                      have hcz14_5 := cellS139_5 HGz14
                      have hcz14_6 := cellS139_6 HGz14
                      have hcz14_7 := cellS139_7 HGz14
                      have hcz14_8 := cellS139_8 HGz14
                      have hcz14_9 := cellS139_9 HGz14
                      have hcz14_10 := cellS139_10 HGz14
                      have hfz14_0 := blk_frozen HGz14 0
                      have hfz14_1 := blk_frozen HGz14 1
                      have hfz14_2 := blk_frozen HGz14 2
                      have hfz14_3 := blk_frozen HGz14 3
                      have hfz14_4 := blk_frozen HGz14 4
                      have hfz14_5 := blk_frozen HGz14 5
                      have hfz14_6 := blk_frozen HGz14 6
                      have hfz14_7 := blk_frozen HGz14 7
                      have hfz14_8 := blk_frozen HGz14 8
                      have hfz14_9 := blk_frozen HGz14 9
                      have hfz14_10 := blk_frozen HGz14 10
                      clear HGz14 hgz14
                      have p5 : 0 ≤ (x1001_1 : Int) := of_decide_eq_true (by first | (with_reducible assumption) | assumption)
                      have q5 : x1001_1 < (s0_0.size : Int) := of_decide_eq_true (by first | (with_reducible assumption) | assumption)
                      have hx5 := bt_at s0_0 x1001_1
                      replace p5 := eq_true p5
                      replace q5 := eq_true q5
                      have p7 : 0 ≤ (x1001_1 : Int) := of_decide_eq_true (by first | (with_reducible assumption) | assumption)
                      have q7 : x1001_1 < (s0_0.size : Int) := of_decide_eq_true (by first | (with_reducible assumption) | assumption)
                      have hx7 := bt_at s0_0 x1001_1
                      replace p7 := eq_true p7
                      replace q7 := eq_true q7
                      go_wp2
                      repeat (go_quiet (fail); try go_wp2)
                      go_ret
                      exact ⟨by first | rfl | (simp [errW_none, errW_some] <;> rfl) | (simp [*, errW_none, errW_some] <;> rfl), by repeat (first | (with_reducible first | exact HI0.out | apply IsS139.alloc | apply IsS139.drewN | apply IsS139.drew | apply IsS139.set_0 | apply IsS139.set_1 | apply IsS139.set_2 | apply IsS139.set_3 | apply IsS139.set_4 | apply IsS139.set_5 | apply IsS139.set_6 | apply IsS139.set_7 | apply IsS139.set_8 | apply IsS139.set_9 | apply IsS139.set_10) | exact HI0.out), by repeat (first | (with_reducible first | exact HB.out | apply below_alloc | apply pw_below_drewN | apply below_drew1 | refine below_set ?_ (IsS139.ge HI0.out)) | exact HB.out), by repeat (first | (with_reducible first | exact HK.out | apply KeepBut.set_ | apply keep_drewN | apply keep_drew | apply keep_alloc) | exact HK.out)⟩
                    · rw [if_neg c13] at H
                      exact absurd H (by simp)
                  · rw [if_neg c12] at H
                    exact absurd H (by simp)
                · rw [if_neg c11] at H
                  exact absurd H (by simp)
              · replace c10 := Bool.eq_false_iff.mpr c10
                subst c10
                have H1 : (if 0 ≤ s0_1 then (if s0_1 ≤ x1001_1 then (if x1001_1 ≤ (s0_0.size : Int) then (some (s0_0.extract (s0_1 : Int).toNat (x1001_1 : Int).toNat, s0_0, x1001_1, (x1001_1 == s0_1), s0_3, s0_4, s0_5, s0_6, s0_7, s0_8, s0_9, s0_10)) else (none)) else (none)) else (none)) = some (r1, r2, r3, r4, r5, r6, r7, r8, r9, r10, r11, r12) := by rw [if_neg (show ¬ (false = true) by decide)] at H; exact H
                clear H
                have H := H1
                clear H1
                by_cases c15 : 0 ≤ s0_1
                · rw [if_pos c15] at H
                  have c15b0 := eq_true c15
                  have c15b1 : decide (0 ≤ s0_1) = true := decide_eq_true c15
                  clear c15
                  by_cases c16 : s0_1 ≤ x1001_1
                  · rw [if_pos c16] at H
                    have c16b0 := eq_true c16
                    have c16b1 : decide (s0_1 ≤ x1001_1) = true := decide_eq_true c16
                    clear c16
                    by_cases c17 : x1001_1 ≤ (s0_0.size : Int)
                    · rw [if_pos c17] at H
                      have c17b0 := eq_true c17
                      have c17b1 : decide (x1001_1 ≤ (s0_0.size : Int)) = true := decide_eq_true c17
                      clear c17
                      simp only [Option.some.injEq, Prod.mk.injEq] at H
                      obtain ⟨rfl, rfl, rfl, rfl, rfl, rfl, rfl, rfl, rfl, rfl, rfl, rfl⟩ := H
                      obtain ⟨HGz18, hgz18⟩ := HI0.out
                      have hcz18_0 := cellS139_0 HGz18
                      have hcz18_1 := cellS139_1 HGz18
                      have hcz18_2 := cellS139_2 HGz18
                      have hcz18_3 := cellS139_3 HGz18
                      have hcz18_4 := cellS139_4 HGz18
                      have hcz18_5 := cellS139_5 HGz18
                      have hcz18_6 := cellS139_6 HGz18
                      have hcz18_7 := cellS139_7 HGz18
                      have hcz18_8 := cellS139_8 HGz18
                      have hcz18_9 := cellS139_9 HGz18
                      have hcz18_10 := cellS139_10 HGz18
                      have hfz18_0 := blk_frozen HGz18 0
                      have hfz18_1 := blk_frozen HGz18 1
                      have hfz18_2 := blk_frozen HGz18 2
                      have hfz18_3 := blk_frozen HGz18 3
                      have hfz18_4 := blk_frozen HGz18 4
                      have hfz18_5 := blk_frozen HGz18 5
                      have hfz18_6 := blk_frozen HGz18 6
                      have hfz18_7 := blk_frozen HGz18 7
                      have hfz18_8 := blk_frozen HGz18 8
                      have hfz18_9 := blk_frozen HGz18 9
                      have hfz18_10 := blk_frozen HGz18 10
                      clear HGz18 hgz18
                      have p5 : 0 ≤ (x1001_1 : Int) := of_decide_eq_true (by first | (with_reducible assumption) | assumption)
                      have q5 : x1001_1 < (s0_0.size : Int) := of_decide_eq_true (by first | (with_reducible assumption) | assumption)
                      have hx5 := bt_at s0_0 x1001_1
                      replace p5 := eq_true p5
                      replace q5 := eq_true q5
                      have p7 : 0 ≤ (x1001_1 : Int) := of_decide_eq_true (by first | (with_reducible assumption) | assumption)
                      have q7 : x1001_1 < (s0_0.size : Int) := of_decide_eq_true (by first | (with_reducible assumption) | assumption)
                      have hx7 := bt_at s0_0 x1001_1
                      replace p7 := eq_true p7
                      replace q7 := eq_true q7
                      go_wp2
                      repeat (go_quiet (fail); try go_wp2)
                      go_ret
                      exact ⟨by first | rfl | (simp [errW_none, errW_some] <;> rfl) | (simp [*, errW_none, errW_some] <;> rfl), by repeat (first | (with_reducible first | exact HI0.out | apply IsS139.alloc | apply IsS139.drewN | apply IsS139.drew | apply IsS139.set_0 | apply IsS139.set_1 | apply IsS139.set_2 | apply IsS139.set_3 | apply IsS139.set_4 | apply IsS139.set_5 | apply IsS139.set_6 | apply IsS139.set_7 | apply IsS139.set_8 | apply IsS139.set_9 | apply IsS139.set_10) | exact HI0.out), by repeat (first | (with_reducible first | exact HB.out | apply below_alloc | apply pw_below_drewN | apply below_drew1 | refine below_set ?_ (IsS139.ge HI0.out)) | exact HB.out), by repeat (first | (with_reducible first | exact HK.out | apply KeepBut.set_ | apply keep_drewN | apply keep_drew | apply keep_alloc) | exact HK.out)⟩
                    · rw [if_neg c17] at H
                      exact absurd H (by simp)
                  · rw [if_neg c16] at H
                    exact absurd H (by simp)
                · rw [if_neg c15] at H
                  exact absurd H (by simp)
          · rw [if_neg c6] at H
            have c6b0 : decide (48 ≤ (bt s0_0 x1001_1)) = false := decide_eq_false c6
            clear c6
            by_cases c19 : s0_2 = true
            · subst c19
              have H1 : (if 0 ≤ s0_1 then (if s0_1 ≤ x1001_1 then (if x1001_1 ≤ (s0_0.size : Int) then (some (s0_0.extract (s0_1 : Int).toNat (x1001_1 : Int).toNat, s0_0, x1001_1, true, s0_3, s0_4, s0_5, s0_6, s0_7, s0_8, s0_9, s0_10)) else (none)) else (none)) else (none)) = some (r1, r2, r3, r4, r5, r6, r7, r8, r9, r10, r11, r12) := by rw [if_pos rfl] at H; exact H
              clear H
              have H := H1
              clear H1
              by_cases c20 : 0 ≤ s0_1
              · rw [if_pos c20] at H
                have c20b0 := eq_true c20
                have c20b1 : decide (0 ≤ s0_1) = true := decide_eq_true c20
                clear c20
                by_cases c21 : s0_1 ≤ x1001_1
                · rw [if_pos c21] at H
                  have c21b0 := eq_true c21
                  have c21b1 : decide (s0_1 ≤ x1001_1) = true := decide_eq_true c21
                  clear c21
                  by_cases c22 : x1001_1 ≤ (s0_0.size : Int)
                  · rw [if_pos c22] at H
                    have c22b0 := eq_true c22
                    have c22b1 : decide (x1001_1 ≤ (s0_0.size : Int)) = true := decide_eq_true c22
                    clear c22
                    simp only [Option.some.injEq, Prod.mk.injEq] at H
                    obtain ⟨rfl, rfl, rfl, rfl, rfl, rfl, rfl, rfl, rfl, rfl, rfl, rfl⟩ := H
                    obtain ⟨HGz23, hgz23⟩ := HI0.out
                    have hcz23_0 := cellS139_0 HGz23
                    have hcz23_1 := cellS139_1 HGz23
                    have hcz23_2 := cellS139_2 HGz23
                    have hcz23_3 := cellS139_3 HGz23
                    have hcz23_4 := cellS139_4 HGz23
                    have hcz23_5 := cellS139_5 HGz23
                    have hcz23_6 := cellS139_6 HGz23
                    have hcz23_7 := cellS139_7 HGz23
                    have hcz23_8 := cellS139_8 HGz23
                    have hcz23_9 := cellS139_9 HGz23
                    have hcz23_10 := cellS139_10 HGz23
                    have hfz23_0 := blk_frozen HGz23 0
                    have hfz23_1 := blk_frozen HGz23 1
                    have hfz23_2 := blk_frozen HGz23 2
                    have hfz23_3 := blk_frozen HGz23 3
                    have hfz23_4 := blk_frozen HGz23 4
                    have hfz23_5 := blk_frozen HGz23 5
                    have hfz23_6 := blk_frozen HGz23 6
                    have hfz23_7 := blk_frozen HGz23 7
                    have hfz23_8 := blk_frozen HGz23 8
                    have hfz23_9 := blk_frozen HGz23 9
                    have hfz23_10 := blk_frozen HGz23 10
                    clear HGz23 hgz23
                    have p5 : 0 ≤ (x1001_1 : Int) := of_decide_eq_true (by first | (with_reducible assumption) | assumption)
                    have q5 : x1001_1 < (s0_0.size : Int) := of_decide_eq_true (by first | (with_reducible assumption) | assumption)
                    have hx5 := bt_at s0_0 x1001_1
                    replace p5 := eq_true p5
                    replace q5 := eq_true q5
                    go_wp2
                    repeat (go_quiet (fail); try go_wp2)
                    go_ret
                    exact ⟨by first | rfl | (simp [errW_none, errW_some] <;> rfl) | (simp [*, errW_none, errW_some] <;> rfl), by repeat (first | (with_reducible first | exact HI0.out | apply IsS139.alloc | apply IsS139.drewN | apply IsS139.drew | apply IsS139.set_0 | apply IsS139.set_1 | apply IsS139.set_2 | apply IsS139.set_3 | apply IsS139.set_4 | apply IsS139.set_5 | apply IsS139.set_6 | apply IsS139.set_7 | apply IsS139.set_8 | apply IsS139.set_9 | apply IsS139.set_10) | exact HI0.out), by repeat (first | (with_reducible first | exact HB.out | apply below_alloc | apply pw_below_drewN | apply below_drew1 | refine below_set ?_ (IsS139.ge HI0.out)) | exact HB.out), by repeat (first | (with_reducible first | exact HK.out | apply KeepBut.set_ | apply keep_drewN | apply keep_drew | apply keep_alloc) | exact HK.out)⟩
                  · rw [if_neg c22] at H
                    exact absurd H (by simp)
                · rw [if_neg c21] at H
                  exact absurd H (by simp)
              · rw [if_neg c20] at H
                exact absurd H (by simp)
            · replace c19 := Bool.eq_false_iff.mpr c19
              subst c19
              have H1 : (if 0 ≤ s0_1 then (if s0_1 ≤ x1001_1 then (if x1001_1 ≤ (s0_0.size : Int) then (some (s0_0.extract (s0_1 : Int).toNat (x1001_1 : Int).toNat, s0_0, x1001_1, (x1001_1 == s0_1), s0_3, s0_4, s0_5, s0_6, s0_7, s0_8, s0_9, s0_10)) else (none)) else (none)) else (none)) = some (r1, r2, r3, r4, r5, r6, r7, r8, r9, r10, r11, r12) := by rw [if_neg (show ¬ (false = true) by decide)] at H; exact H
              clear H
              have H := H1
              clear H1
              by_cases c24 : 0 ≤ s0_1
              · rw [if_pos c24] at H
                have c24b0 := eq_true c24
                have c24b1 : decide (0 ≤ s0_1) = true := decide_eq_true c24
                clear c24
                by_cases c25 : s0_1 ≤ x1001_1
                · rw [if_pos c25] at H
                  have c25b0 := eq_true c25
                  have c25b1 : decide (s0_1 ≤ x1001_1) = true := decide_eq_true c25
                  clear c25
                  by_cases c26 : x1001_1 ≤ (s0_0.size : Int)
                  · rw [if_pos c26] at H
                    have c26b0 := eq_true c26
                    have c26b1 : decide (x1001_1 ≤ (s0_0.size : Int)) = true := decide_eq_true c26
                    clear c26
                    simp only [Option.some.injEq, Prod.mk.injEq] at H
                    obtain ⟨rfl, rfl, rfl, rfl, rfl, rfl, rfl, rfl, rfl, rfl, rfl, rfl⟩ := H
                    obtain ⟨HGz27, hgz27⟩ := HI0.out
                    have hcz27_0 := cellS139_0 HGz27
                    have hcz27_1 := cellS139_1 HGz27
                    have hcz27_2 := cellS139_2 HGz27
                    have hcz27_3 := cellS139_3 HGz27
                    have hcz27_4 := cellS139_4 HGz27
                    have hcz27_5 := cellS139_5 HGz27
                    have hcz27_6 := cellS139_6 HGz27
                    have hcz27_7 := cellS139_7 HGz27
                    have hcz27_8 := cellS139_8 HGz27
                    have hcz27_9 := cellS139_9 HGz27
                    have hcz27_10 := cellS139_10 HGz27
                    have hfz27_0 := blk_frozen HGz27 0
                    have hfz27_1 := blk_frozen HGz27 1
                    have hfz27_2 := blk_frozen HGz27 2
                    have hfz27_3 := blk_frozen HGz27 3
                    have hfz27_4 := blk_frozen HGz27 4
                    have hfz27_5 := blk_frozen HGz27 5
                    have hfz27_6 := blk_frozen HGz27 6
                    have hfz27_7 := blk_frozen HGz27 7
                    have hfz27_8 := blk_frozen HGz27 8
                    have hfz27_9 := blk_frozen HGz27 9
                    have hfz27_10 := blk_frozen HGz27 10
                    clear HGz27 hgz27
                    have p5 : 0 ≤ (x1001_1 : Int) := of_decide_eq_true (by first | (with_reducible assumption) | assumption)
                    have q5 : x1001_1 < (s0_0.size : Int) := of_decide_eq_true (by first | (with_reducible assumption) | assumption)
                    have hx5 := bt_at s0_0 x1001_1
                    replace p5 := eq_true p5
                    replace q5 := eq_true q5
                    go_wp2
                    repeat (go_quiet (fail); try go_wp2)
                    go_ret
                    exact ⟨by first | rfl | (simp [errW_none, errW_some] <;> rfl) | (simp [*, errW_none, errW_some] <;> rfl), by repeat (first | (with_reducible first | exact HI0.out | apply IsS139.alloc | apply IsS139.drewN | apply IsS139.drew | apply IsS139.set_0 | apply IsS139.set_1 | apply IsS139.set_2 | apply IsS139.set_3 | apply IsS139.set_4 | apply IsS139.set_5 | apply IsS139.set_6 | apply IsS139.set_7 | apply IsS139.set_8 | apply IsS139.set_9 | apply IsS139.set_10) | exact HI0.out), by repeat (first | (with_reducible first | exact HB.out | apply below_alloc | apply pw_below_drewN | apply below_drew1 | refine below_set ?_ (IsS139.ge HI0.out)) | exact HB.out), by repeat (first | (with_reducible first | exact HK.out | apply KeepBut.set_ | apply keep_drewN | apply keep_drew | apply keep_alloc) | exact HK.out)⟩
                  · rw [if_neg c26] at H
                    exact absurd H (by simp)
                · rw [if_neg c25] at H
                  exact absurd H (by simp)
              · rw [if_neg c24] at H
                exact absurd H (by simp)
        · rw [if_neg c4] at H
          exact absurd H (by simp)
      · rw [if_neg c3] at H
        have c3b0 : decide (x1001_1 < (s0_0.size : Int)) = false := decide_eq_false c3
        clear c3
        by_cases c28 : s0_2 = true
        · subst c28
          have H1 : (if 0 ≤ s0_1 then (if s0_1 ≤ x1001_1 then (if x1001_1 ≤ (s0_0.size : Int) then (some (s0_0.extract (s0_1 : Int).toNat (x1001_1 : Int).toNat, s0_0, x1001_1, true, s0_3, s0_4, s0_5, s0_6, s0_7, s0_8, s0_9, s0_10)) else (none)) else (none)) else (none)) = some (r1, r2, r3, r4, r5, r6, r7, r8, r9, r10, r11, r12) := by rw [if_pos rfl] at H; exact H
          clear H
          have H := H1
          clear H1
          by_cases c29 : 0 ≤ s0_1
          · rw [if_pos c29] at H
            have c29b0 := eq_true c29
            have c29b1 : decide (0 ≤ s0_1) = true := decide_eq_true c29
            clear c29
            by_cases c30 : s0_1 ≤ x1001_1
            · rw [if_pos c30] at H
              have c30b0 := eq_true c30
              have c30b1 : decide (s0_1 ≤ x1001_1) = true := decide_eq_true c30
              clear c30
              by_cases c31 : x1001_1 ≤ (s0_0.size : Int)
              · rw [if_pos c31] at H
                have c31b0 := eq_true c31
                have c31b1 : decide (x1001_1 ≤ (s0_0.size : Int)) = true := decide_eq_true c31
                clear c31
                simp only [Option.some.injEq, Prod.mk.injEq] at H
                obtain ⟨rfl, rfl, rfl, rfl, rfl, rfl, rfl, rfl, rfl, rfl, rfl, rfl⟩ := H
                obtain ⟨HGz32, hgz32⟩ := HI0.out
                have hcz32_0 := cellS139_0 HGz32
                have hcz32_1 := cellS139_1 HGz32
                have hcz32_2 := cellS139_2 HGz32
                have hcz32_3 := cellS139_3 HGz32
                have hcz32_4 := cellS139_4 HGz32
                have hcz32_5 := cellS139_5 HGz32
                have hcz32_6 := cellS139_6 HGz32
                have hcz32_7 := cellS139_7 HGz32
                have hcz32_8 := cellS139_8 HGz32
                have hcz32_9 := cellS139_9 HGz32
                have hcz32_10 := cellS139_10 HGz32
                have hfz32_0 := blk_frozen HGz32 0
                have hfz32_1 := blk_frozen HGz32 1
                have hfz32_2 := blk_frozen HGz32 2
                have hfz32_3 := blk_frozen HGz32 3
                have hfz32_4 := blk_frozen HGz32 4
                have hfz32_5 := blk_frozen HGz32 5
                have hfz32_6 := blk_frozen HGz32 6
                have hfz32_7 := blk_frozen HGz32 7
                have hfz32_8 := blk_frozen HGz32 8
                have hfz32_9 := blk_frozen HGz32 9
                have hfz32_10 := blk_frozen HGz32 10
                clear HGz32 hgz32
                go_wp2
                repeat (go_quiet (fail); try go_wp2)
                go_ret
                exact ⟨by first | rfl | (simp [errW_none, errW_some] <;> rfl) | (simp [*, errW_none, errW_some] <;> rfl), by repeat (first | (with_reducible first | exact HI0.out | apply IsS139.alloc | apply IsS139.drewN | apply IsS139.drew | apply IsS139.set_0 | apply IsS139.set_1 | apply IsS139.set_2 | apply IsS139.set_3 | apply IsS139.set_4 | apply IsS139.set_5 | apply IsS139.set_6 | apply IsS139.set_7 | apply IsS139.set_8 | apply IsS139.set_9 | apply IsS139.set_10) | exact HI0.out), by repeat (first | (with_reducible first | exact HB.out | apply below_alloc | apply pw_below_drewN | apply below_drew1 | refine below_set ?_ (IsS139.ge HI0.out)) | exact HB.out), by repeat (first | (with_reducible first | exact HK.out | apply KeepBut.set_ | apply keep_drewN | apply keep_drew | apply keep_alloc) | exact HK.out)⟩
              · rw [if_neg c31] at H
                exact absurd H (by simp)
            · rw [if_neg c30] at H
              exact absurd H (by simp)
          · rw [if_neg c29] at H
            exact absurd H (by simp)
        · replace c28 := Bool.eq_false_iff.mpr c28
          subst c28
          have H1 : (if 0 ≤ s0_1 then (if s0_1 ≤ x1001_1 then (if x1001_1 ≤ (s0_0.size : Int) then (some (s0_0.extract (s0_1 : Int).toNat (x1001_1 : Int).toNat, s0_0, x1001_1, (x1001_1 == s0_1), s0_3, s0_4, s0_5, s0_6, s0_7, s0_8, s0_9, s0_10)) else (none)) else (none)) else (none)) = some (r1, r2, r3, r4, r5, r6, r7, r8, r9, r10, r11, r12) := by rw [if_neg (show ¬ (false = true) by decide)] at H; exact H
          clear H
          have H := H1
          clear H1
          by_cases c33 : 0 ≤ s0_1
          · rw [if_pos c33] at H
            have c33b0 := eq_true c33
            have c33b1 : decide (0 ≤ s0_1) = true := decide_eq_true c33
            clear c33
            by_cases c34 : s0_1 ≤ x1001_1
            · rw [if_pos c34] at H
              have c34b0 := eq_true c34
              have c34b1 : decide (s0_1 ≤ x1001_1) = true := decide_eq_true c34
              clear c34
              by_cases c35 : x1001_1 ≤ (s0_0.size : Int)
              · rw [if_pos c35] at H
                have c35b0 := eq_true c35
                have c35b1 : decide (x1001_1 ≤ (s0_0.size : Int)) = true := decide_eq_true c35
                clear c35
                simp only [Option.some.injEq, Prod.mk.injEq] at H
                obtain ⟨rfl, rfl, rfl, rfl, rfl, rfl, rfl, rfl, rfl, rfl, rfl, rfl⟩ := H
                obtain ⟨HGz36, hgz36⟩ := HI0.out
                have hcz36_0 := cellS139_0 HGz36
                have hcz36_1 := cellS139_1 HGz36
                have hcz36_2 := cellS139_2 HGz36
                have hcz36_3 := cellS139_3 HGz36
                have hcz36_4 := cellS139_4 HGz36
                have hcz36_5 := cellS139_5 HGz36
                have hcz36_6 := cellS139_6 HGz36
                have hcz36_7 := cellS139_7 HGz36
                have hcz36_8 := cellS139_8 HGz36
                have hcz36_9 := cellS139_9 HGz36
                have hcz36_10 := cellS139_10 HGz36
                have hfz36_0 := blk_frozen HGz36 0
                have hfz36_1 := blk_frozen HGz36 1
                have hfz36_2 := blk_frozen HGz36 2
                have hfz36_3 := blk_frozen HGz36 3
                have hfz36_4 := blk_frozen HGz36 4
                have hfz36_5 := blk_frozen HGz36 5
                have hfz36_6 := blk_frozen HGz36 6
                have hfz36_7 := blk_frozen HGz36 7
                have hfz36_8 := blk_frozen HGz36 8
                have hfz36_9 := blk_frozen HGz36 9
                have hfz36_10 := blk_frozen HGz36 10
                clear HGz36 hgz36
                go_wp2
                repeat (go_quiet (fail); try go_wp2)
                go_ret
                exact ⟨by first | rfl | (simp [errW_none, errW_some] <;> rfl) | (simp [*, errW_none, errW_some] <;> rfl), by repeat (first | (with_reducible first | exact HI0.out | apply IsS139.alloc | apply IsS139.drewN | apply IsS139.drew | apply IsS139.set_0 | apply IsS139.set_1 | apply IsS139.set_2 | apply IsS139.set_3 | apply IsS139.set_4 | apply IsS139.set_5 | apply IsS139.set_6 | apply IsS139.set_7 | apply IsS139.set_8 | apply IsS139.set_9 | apply IsS139.set_10) | exact HI0.out), by repeat (first | (with_reducible first | exact HB.out | apply below_alloc | apply pw_below_drewN | apply below_drew1 | refine below_set ?_ (IsS139.ge HI0.out)) | exact HB.out), by repeat (first | (with_reducible first | exact HK.out | apply KeepBut.set_ | apply keep_drewN | apply keep_drew | apply keep_alloc) | exact HK.out)⟩
              · rw [if_neg c35] at H
                exact absurd H (by simp)
            · rw [if_neg c34] at H
              exact absurd H (by simp)
          · rw [if_neg c33] at H
            exact absurd H (by simp)
end Go.Proofs.YtglaeambknhjlaaGreatDoor.P
end
section
set_option linter.unusedVariables false
namespace Go.Proofs.YtglaeambknhjlaaGreatDoor.P
open Go.RowKit Go.Proofs.YtglaeambknhjlaaGreatDoorW.PrintWords
structure Fm where
  at_ : Nat
  bad : Bool
  neg : Bool
  m : ByteArray
  behind : Nat
  exp : ByteArray
  minus : Bool
  den : ByteArray
  fraction : Bool
  slash : Nat
def Fm.obj (s : ByteArray) (f : Fm) : Array Value := #[.string s, .int .i64 f.at_, .bool f.bad, .bool f.neg, .string f.m, .int .i64 f.behind, .string f.exp, .bool f.minus, .string f.den, .bool f.fraction, .int .i64 f.slash]
structure FSt (w0 w : World) (g : Nat) (s : ByteArray) (f : Fm) : Prop where
  blk : w.heap[g]? = some (.cells (f.obj s) 139 (0, 0))
  ge : w0.heap.size ≤ g
  below : Below w0.heap.size w0 w
def isD (c : UInt8) : Bool := decide (48 ≤ c.toNat) && decide (c.toNat ≤ 57)
def runN (l : List UInt8) (i : Nat) : Nat := i + ((l.drop i).takeWhile isD).length
theorem runN_le {l : List UInt8} {i : Nat} (h : i ≤ l.length) : runN l i ≤ l.length := by
  unfold runN
  have := (List.takeWhile_sublist isD (l := l.drop i)).length_le
  rw [List.length_drop] at this
  omega
theorem runN_step {l : List UInt8} {i : Nat} (h : i < l.length) (hd : isD l[i] = true) : runN l i = runN l (i + 1) := by
  unfold runN
  rw [List.drop_eq_getElem_cons h, List.takeWhile_cons, if_pos hd, List.length_cons]; omega
theorem runN_stop {l : List UInt8} {i : Nat} (h : i < l.length) (hd : isD l[i] = false) : runN l i = i := by
  unfold runN
  rw [List.drop_eq_getElem_cons h, List.takeWhile_cons, if_neg (by rw [hd]; decide)]; rfl
theorem runN_end {l : List UInt8} {i : Nat} (h : l.length ≤ i) : runN l i = i := by
  unfold runN
  rw [List.drop_eq_nil_of_le h]; rfl
def Fm.digT (s : ByteArray) (f : Fm) : ByteArray := s.extract f.at_ (runN s.data.toList f.at_)
def Fm.dig (s : ByteArray) (f : Fm) : Fm := { f with at_ := runN s.data.toList f.at_, bad := f.bad || decide (runN s.data.toList f.at_ = f.at_) }
theorem digits_ev (s : ByteArray) (hs : s.size ≤ 1099511627776) (fr : Nat) (bad neg : Bool) (m : ByteArray) (bh : Int) (ex : ByteArray) (mi : Bool) (de : ByteArray) (fc : Bool) (sl : Int) : ∀ (d i : Nat), s.size - i = d → fr ≤ i → i ≤ s.size →
    Ev (fun k => rat_form_digits.l0 k (fr : Int) s (i : Int) bad neg m bh ex mi de fc sl) (s.extract fr (runN s.data.toList i), s, ((runN s.data.toList i : Nat) : Int), bad || decide (runN s.data.toList i = fr), neg, m, bh, ex, mi, de, fc, sl) := by
  have hl : s.data.toList.length = s.size := data_length s
  have hbool : ∀ i : Nat, ((i : Int) == (fr : Int)) = decide (i = fr) := fun i => by
    rw [Bool.eq_iff_iff]; simp only [beq_iff_eq, decide_eq_true_eq]; omega
  intro d
  induction d with
  | zero =>
    intro i hd hf hi
    have : i = s.size := by omega
    subst this
    rw [runN_end (by omega)]
    cases bad
    · refine Ev.step (f := fun _ => some (s.extract fr s.size, s, ((s.size : Nat) : Int), false || decide (s.size = fr), neg, m, bh, ex, mi, de, fc, sl)) (fun k => ?_) (Ev.now _)
      simp only [rat_form_digits.l0]
      rw [if_neg (by omega), if_neg (by decide), if_pos (by omega), if_pos (by omega), if_pos (by omega), Int.toNat_natCast, Int.toNat_natCast, hbool, Bool.false_or]
    · refine Ev.step (f := fun _ => some (s.extract fr s.size, s, ((s.size : Nat) : Int), true || decide (s.size = fr), neg, m, bh, ex, mi, de, fc, sl)) (fun k => ?_) (Ev.now _)
      simp only [rat_form_digits.l0]
      rw [if_neg (by omega), if_pos trivial, if_pos (by omega), if_pos (by omega), if_pos (by omega), Int.toNat_natCast, Int.toNat_natCast, Bool.true_or]
  | succ d ih =>
    intro i hd hf hi
    have hil : i < s.data.toList.length := by omega
    have hb := bt_nth s hil
    by_cases h1 : 48 ≤ s.data.toList[i].toNat
    · by_cases h2 : s.data.toList[i].toNat ≤ 57
      · have hD : isD s.data.toList[i] = true := by unfold isD; rw [decide_eq_true h1, decide_eq_true h2]; rfl
        rw [runN_step hil hD]
        refine Ev.step (fun k => ?_) (ih (i + 1) (by omega) (by omega) (by omega))
        simp only [rat_form_digits.l0]
        rw [if_pos (by omega), if_pos (by omega), hb, if_pos (by omega), if_pos (by omega), w64' (by omega) (by omega)]
        rfl
      · have hD : isD s.data.toList[i] = false := by unfold isD; rw [decide_eq_false h2, Bool.and_false]
        rw [runN_stop hil hD]
        cases bad
        · refine Ev.step (f := fun _ => some (s.extract fr i, s, ((i : Nat) : Int), false || decide (i = fr), neg, m, bh, ex, mi, de, fc, sl)) (fun k => ?_) (Ev.now _)
          simp only [rat_form_digits.l0]
          rw [if_pos (by omega), if_pos (by omega), hb, if_pos (by omega), if_neg (by omega), if_neg (by decide), if_pos (by omega), if_pos (by omega), if_pos (by omega), Int.toNat_natCast, Int.toNat_natCast, hbool, Bool.false_or]
        · refine Ev.step (f := fun _ => some (s.extract fr i, s, ((i : Nat) : Int), true || decide (i = fr), neg, m, bh, ex, mi, de, fc, sl)) (fun k => ?_) (Ev.now _)
          simp only [rat_form_digits.l0]
          rw [if_pos (by omega), if_pos (by omega), hb, if_pos (by omega), if_neg (by omega), if_pos trivial, if_pos (by omega), if_pos (by omega), if_pos (by omega), Int.toNat_natCast, Int.toNat_natCast, Bool.true_or]
    · have hD : isD s.data.toList[i] = false := by unfold isD; rw [decide_eq_false h1]; rfl
      rw [runN_stop hil hD]
      cases bad
      · refine Ev.step (f := fun _ => some (s.extract fr i, s, ((i : Nat) : Int), false || decide (i = fr), neg, m, bh, ex, mi, de, fc, sl)) (fun k => ?_) (Ev.now _)
        simp only [rat_form_digits.l0]
        rw [if_pos (by omega), if_pos (by omega), hb, if_neg (by omega), if_neg (by decide), if_pos (by omega), if_pos (by omega), if_pos (by omega), Int.toNat_natCast, Int.toNat_natCast, hbool, Bool.false_or]
      · refine Ev.step (f := fun _ => some (s.extract fr i, s, ((i : Nat) : Int), true || decide (i = fr), neg, m, bh, ex, mi, de, fc, sl)) (fun k => ?_) (Ev.now _)
        simp only [rat_form_digits.l0]
        rw [if_pos (by omega), if_pos (by omega), hb, if_neg (by omega), if_pos trivial, if_pos (by omega), if_pos (by omega), if_pos (by omega), Int.toNat_natCast, Int.toNat_natCast, Bool.true_or]
theorem digits_calls (w0 w : World) (g : Nat) (s : ByteArray) (f : Fm) (h : FSt w0 w g s f) (hs : s.size ≤ 1099511627776) (ha : f.at_ ≤ s.size) :
    Calls Tryz.prog 212 #[.pointer (some ⟨g, 0, none⟩)] w fun e w' => e = .returned (.string (f.digT s)) ∧ FSt w0 w' g s (f.dig s) := by
  obtain ⟨k, hk⟩ := (digits_ev s hs f.at_ f.bad f.neg f.m f.behind f.exp f.minus f.den f.fraction f.slash (s.size - f.at_) f.at_ rfl (Nat.le_refl _) ha).rounds
  exact (rat_form_digits.calls k g s f.at_ f.bad f.neg f.m f.behind f.exp f.minus f.den f.fraction f.slash _ _ _ _ _ _ _ _ _ _ _ _ w0 w ⟨h.blk, h.ge⟩ h.below hk).mono fun e w' ⟨he, hI, hB, _⟩ => ⟨he, hI.1, hI.2, hB⟩
def Fm.sgB (s : ByteArray) (set : ByteArray) (f : Fm) : Bool := !f.bad && decide (f.at_ < s.size) && decide (s.data.toList.getD f.at_ 0 ∈ set.data.toList)
def Fm.sgV (s : ByteArray) (set : ByteArray) (f : Fm) : Int := if f.sgB s set then ((s.data.toList.getD f.at_ 0).toNat : Int) else 0
def Fm.sgn (s : ByteArray) (set : ByteArray) (f : Fm) : Fm := if f.sgB s set then { f with at_ := f.at_ + 1 } else f
theorem FSt.drewN {w0 w : World} {g : Nat} {s : ByteArray} {f : Fm} (h : FSt w0 w g s f) (n : Nat) : FSt w0 (w.drewN n) g s f := ⟨h.blk, h.ge, bthen h.below (below_drewN' _ _)⟩
theorem index_ge {l : List UInt8} {c : UInt8} : 0 ≤ Lib.indexByte l c ↔ c ∈ l := by
  induction l with
  | nil => simp [Lib.indexByte]
  | cons b l ih =>
    have hg := Lib.indexByte_ge l c
    unfold Lib.indexByte
    by_cases h : b = c
    · subst h
      simp
    · have hb : (b == c) = false := beq_eq_false_iff_ne.2 h
      have hc : c ∈ b :: l ↔ c ∈ l := by
        rw [List.mem_cons]
        exact ⟨fun hh => hh.elim (fun e => absurd e.symm h) id, Or.inr⟩
      rw [hb, if_neg (by decide), hc, ← ih]
      by_cases h1 : Lib.indexByte l c = -1
      · rw [h1]; decide
      · have : (Lib.indexByte l c == -1) = false := beq_eq_false_iff_ne.2 h1
        rw [this, if_neg (by decide)]
        omega
set_option maxRecDepth 100000 in
set_option maxHeartbeats 4000000 in
theorem sign_form (w0 w : World) (g : Nat) (s set : ByteArray) (f : Fm) (h : FSt w0 w g s f) (hs : s.size ≤ 1099511627776) (ha : f.at_ ≤ s.size) :
    Calls Tryz.prog 211 #[.pointer (some ⟨g, 0, none⟩), .string set] w fun e w' => e = .returned (.int .u8 (f.sgV s set)) ∧ FSt w0 w' g s (f.sgn s set) := by
  have c0 := (blk_cell h.blk 0).trans (show _ = some (Value.string s) from rfl)
  have c1 := (blk_cell h.blk 1).trans (show _ = some (Value.int .i64 f.at_) from rfl)
  have c2 := (blk_cell h.blk 2).trans (show _ = some (Value.bool f.bad) from rfl)
  have f1 := blk_frozen h.blk 1
  have HH := Lib.hid h
  clear h
  cases hbad : f.bad
  · rw [hbad] at c2
    have HBAD := Lib.hid hbad
    clear hbad
    by_cases hlt : f.at_ < s.size
    · have heq : ((f.at_ : Int) == (s.size : Int)) = false := beq_eq_false_iff_ne.2 (by omega)
      have hlI : (f.at_ : Int) < (s.size : Int) := by omega
      have hI := fun W => Tryz.strings_IndexByte set ((s[f.at_]'hlt).toNat : Int) W
      have hby : ((s[f.at_]'hlt).toNat : Int).toNat.toUInt8 = s.data.toList.getD f.at_ 0 := by
        rw [Int.toNat_natCast, List.getD_eq_getElem?_getD, List.getElem?_eq_getElem (by rw [data_length]; exact hlt), Option.getD_some]
        simp [ByteArray.getElem_eq_getElem_data, Nat.toUInt8]
      have hby2 : ((s[f.at_]'hlt).toNat : Int) = ((s.data.toList.getD f.at_ 0).toNat : Int) := by
        rw [List.getD_eq_getElem?_getD, List.getElem?_eq_getElem (by rw [data_length]; exact hlt), Option.getD_some]
        simp [ByteArray.getElem_eq_getElem_data]
      rw [hby] at hI
      by_cases hin : s.data.toList.getD f.at_ 0 ∈ set.data.toList
      · have hr := index_ge.2 hin
        have hsb : f.sgB s set = true := by unfold Fm.sgB; rw [HBAD.out, decide_eq_true hlt, decide_eq_true hin]; rfl
        have HV := Lib.hid (show f.sgV s set = ((s.data.toList.getD f.at_ 0).toNat : Int) ∧ f.sgn s set = { f with at_ := f.at_ + 1 } by unfold Fm.sgV Fm.sgn; rw [if_pos hsb, if_pos hsb]; exact ⟨rfl, rfl⟩)
        generalize Lib.indexByte set.data.toList (s.data.toList.getD f.at_ 0) = r at *
        have HB2 := Lib.hid hby2
        clear hby hby2 hsb hin
        go_enter Tryz.func211, Tryz.ntmps211
        go_wp2
        go_quiet ((go_at_call 235; exact Calls.quiet_of_same (hI _)))
        have hbk := (HH.out.drewN nq).blk
        have hbl := (HH.out.drewN nq).below
        have hge := HH.out.ge
        have f1' := blk_frozen hbk 1
        generalize w.drewN nq = w2 at *
        have c1' := (blk_cell hbk 1).trans (show _ = some (Value.int .i64 f.at_) from rfl)
        have hs1 := (blk_set hbk 1 (.int .i64 ((f.at_ : Int) + 1))).trans (show _ = some (Obj.cells (Fm.obj s { f with at_ := f.at_ + 1 }) 139 (0, 0)) from rfl)
        have hb1 := below_set (g := g) (j := 1) (v := .int .i64 ((f.at_ : Int) + 1)) hbl hge
        have HS1 := Lib.hid hs1
        have HB1 := Lib.hid hb1
        have hnr : ¬ r < 0 := by omega
        clear hbk hs1 hb1 c0 c1 c2 f1 hI
        go_wp2
        generalize w2.setCell ⟨g, 1, none⟩ (.int .i64 ((f.at_ : Int) + 1)) = w3 at *
        have d0 := (blk_cell HS1.out 0).trans (show _ = some (Value.string s) from rfl)
        have d1 := (blk_cell HS1.out 1).trans (show _ = some (Value.int .i64 ((f.at_ : Int) + 1)) from rfl)
        have hwr : IntKind.i64.wrap ((f.at_ : Int) + 1 - 1) = (f.at_ : Int) := by rw [IntKind.wrap_i64]; omega
        go_quiet (fail)
        clear hwr
        go_wp2
        go_ret
        exact ⟨by rw [HV.out.1, ← HB2.out]; rfl, by rw [HV.out.2]; exact ⟨HS1.out, hge, bthen HB1.out (below_drewN' _ _)⟩⟩
      · have hr : ¬ 0 ≤ Lib.indexByte set.data.toList (s.data.toList.getD f.at_ 0) := fun h => hin (index_ge.1 h)
        have hsb : f.sgB s set = false := by unfold Fm.sgB; rw [decide_eq_false hin, Bool.and_false]
        have HV := Lib.hid (show f.sgV s set = 0 ∧ f.sgn s set = f by unfold Fm.sgV Fm.sgn; rw [hsb]; exact ⟨rfl, rfl⟩)
        generalize Lib.indexByte set.data.toList (s.data.toList.getD f.at_ 0) = r at *
        have hrn : r < 0 := by omega
        clear hby hby2 hsb hin hr
        go_enter Tryz.func211, Tryz.ntmps211
        go_wp2
        go_quiet ((go_at_call 235; exact Calls.quiet_of_same (hI _)))
        go_wp2
        go_ret
        exact ⟨by rw [HV.out.1]; rfl, by rw [HV.out.2]; exact HH.out.drewN _⟩
    · have he : f.at_ = s.size := by omega
      have heq : ((f.at_ : Int) == (s.size : Int)) = true := beq_iff_eq.2 (by omega)
      have hsb : f.sgB s set = false := by unfold Fm.sgB; rw [decide_eq_false hlt, Bool.and_false, Bool.false_and]
      have HV := Lib.hid (show f.sgV s set = 0 ∧ f.sgn s set = f by unfold Fm.sgV Fm.sgn; rw [hsb]; exact ⟨rfl, rfl⟩)
      clear hsb he
      go_enter Tryz.func211, Tryz.ntmps211
      go_wp2
      go_quiet (fail)
      go_wp2
      go_ret
      exact ⟨by rw [HV.out.1]; rfl, by rw [HV.out.2]; exact HH.out.drewN _⟩
  · rw [hbad] at c2
    have HV := Lib.hid (show f.sgV s set = 0 ∧ f.sgn s set = f by unfold Fm.sgV Fm.sgn Fm.sgB; rw [hbad]; exact ⟨rfl, rfl⟩)
    clear hbad
    go_enter Tryz.func211, Tryz.ntmps211
    go_wp2
    go_quiet (fail)
    go_wp2
    go_ret
    exact ⟨by rw [HV.out.1]; rfl, by rw [HV.out.2]; exact HH.out.drewN _⟩
end Go.Proofs.YtglaeambknhjlaaGreatDoor.P
end
