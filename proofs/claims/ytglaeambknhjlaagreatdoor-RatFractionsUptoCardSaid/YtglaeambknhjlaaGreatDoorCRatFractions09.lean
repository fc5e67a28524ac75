/- Texts under the proof, joined by a program (prune.py): HRatRead2, HRatTold, QRatA, HAll, HTwo, HRatTen, QRatB, QRatC, HAddAlias, HRatEven, QRatD, SSimple, SChain, Q0, QRows. -/
import Derived.Test.YtglaeambknhjlaaGreatDoorCRatFractions08
import Derived.Laws.CopyOwn
import Derived.Test.YtglaeambknhjlaaGreatDoorCRatFractions04
import Derived.WalkSpells
import Derived.StillTailTactics
import Derived.Shelf.Abstract
import Derived.Test.YtglaeambknhjlaaGreatDoorCRatFractions07
import Derived.Test.YtglaeambknhjlaaGreatDoorCRatFractions03
import Derived.Test.YtglaeambknhjlaaGreatDoorCRatFractions06
import Derived.Test.YtglaeambknhjlaaGreatDoorProg
import Derived.Below
import Derived.Deep.Draws
import Derived.Deep.AppendLies
import Derived.Maps.AppendAt
import Derived.OwnWalk
import Derived.Laws.BytesArg
import Derived.Laws.MakeOwn
import Derived.Laws.OwnMore
import Derived.Deep.OwnRows
import Derived.Tactics
import Derived.Lib.ConvBytes
import Derived.Laws.Slices
import Derived.WalkKit
import Derived.KernelRfl
import Derived.RowKit3
import Derived.Deep.LoopGhost
import Derived.Deep.QuietTactic
import Derived.BigQuiet
import Derived.WideLaws
import Derived.Deep.DeepCutAuto
import Derived.Deep.CutBlock
import Derived.Deep.RegionHeld3
import Derived.Laws.Rows
import Derived.Lib.AppendStr
import Derived.ArgAppend
import Derived.Laws.IdiomCopy
import Derived.OrdersHeld
import Derived.Laws.BitsLemmas
import Derived.RowKit
import Derived.Test.YtglaeambknhjlaaGreatDoorCRatFractions00
import Derived.Test.YtglaeambknhjlaaGreatDoorCRatFractions01
import Derived.Test.YtglaeambknhjlaaGreatDoorCRatFractions02
import Derived.WalkMore
set_option linter.unusedVariables false
set_option linter.unusedSimpArgs false
set_option exponentiation.threshold 20001
set_option maxHeartbeats 8000000
set_option maxRecDepth 100000
section
namespace Go.Proofs.ZP
open Go.RowKit Go.Proofs.ZW.Wa
structure RR (a b:ByteArray) (x:Rat):Prop where
 num:a=wtext x.num
 den:b=T x.den
 ln:x.num.natAbs<10^600
 ld:x.den<10^600
theorem natural_any (s:ByteArray) (w:World):Calls Tryz.prog 107 #[.string s] w fun e w'=>∃ v,e = .returned (.pointer v)∧Below w.heap.size w w':=by
 cases hr:rightB s
 ·exact (zcn s w hr).mono fun e w' ⟨he,hb⟩=>⟨_,he,hb⟩
 ·obtain ⟨n,rfl,hn⟩:=right_iff.1 hr
  exact (za9 n w hn).mono fun e w' ⟨D,he,_,_,hb⟩=>⟨_,he,hb⟩
theorem bd600 {n:Nat} (h:n<10^600):Bd 2000 (n:Int):=by
 unfold Bd
 rw [Int.natAbs_natCast]
 exact Nat.lt_of_lt_of_le h ten600
theorem bd600' {x:Int} (h:x.natAbs<10^600):Bd 2000 x:=by
 unfold Bd
 exact Nat.lt_of_lt_of_le h ten600
theorem RR.bd {a b:ByteArray} {x:Rat} (h:RR a b x):Bdr 2000 x:=⟨bd600' h.ln,bd600 h.ld⟩
theorem read_noW (a b:ByteArray) (w:World) (h:¬ ∃ x,WR a x) :
  Calls Tryz.prog 101 #[.agg #[.string a,.string b]] w fun e w'=>e = .returned (.pointer none)∧Below w.heap.size w w':=by
 have HW:=fun W=>whole_no a W h
 have HN:=fun W=>natural_any b W
 clear h
 have c0:(w.alloc (.cells #[.string a,.string b] 23)).cell? ⟨w.heap.size,0,none⟩=some (.string a):=(zaf (zay w (.cells #[.string a,.string b] 23)) 0).trans rfl
 have c1:(w.alloc (.cells #[.string a,.string b] 23)).cell? ⟨w.heap.size,1,none⟩=some (.string b):=(zaf (zay w (.cells #[.string a,.string b] 23)) 1).trans rfl
 have hba:=zaa (Below.refl w.heap.size w) (.cells #[.string a,.string b] 23)
 go_enter Tryz.func101,Tryz.ntmps101
 go_wp2_with fail
 have hs0:=hba.size
 generalize w.alloc (.cells #[.string a,.string b] 23)=W0 at *
 generalize hBe:w.heap.size=B0 at c0 c1 ⊢
 have HBE:=Lib.hid hBe
 clear hBe
 go_region_held3 (fun w'=>w'.cell? ⟨B0,0,none⟩=some (.string a)∧w'.cell? ⟨B0,1,none⟩=some (.string b)) (refine ⟨?_,?_⟩<;>(repeat (with_reducible first|assumption|refine zb4 ?_|refine bcell hb2 ?_|refine bcell hb1 ?_)))
  ((first
   | (go_simp; go_at_call 106; refine (HW _).mono ?_; rintro e w1 ⟨rfl,hb1⟩)
   | (go_simp; go_at_call 107; refine (HN _).mono ?_; rintro e w2 ⟨v,rfl,hb2⟩)
   ))
 all_goals
  have hBW:Below w.heap.size w w2:=(by repeat (with_reducible first|exact hba|apply zap|refine bthen ?_ hb2|refine bthen ?_ hb1))
  go_wp2
  go_ret
  exact ⟨rfl,hBW⟩
theorem read_noN (x:Int) (b:ByteArray) (w:World) (hx:x.natAbs<10^600) (h:rightB b=false) :
  Calls Tryz.prog 101 #[.agg #[.string (wtext x),.string b]] w fun e w'=>e = .returned (.pointer none)∧Below w.heap.size w w':=by
 have HW:=fun W=>zcj x W hx
 have HN:=fun W=>zcn b W h
 clear h hx
 generalize wtext x=a at *
 have c0:(w.alloc (.cells #[.string a,.string b] 23)).cell? ⟨w.heap.size,0,none⟩=some (.string a):=(zaf (zay w (.cells #[.string a,.string b] 23)) 0).trans rfl
 have c1:(w.alloc (.cells #[.string a,.string b] 23)).cell? ⟨w.heap.size,1,none⟩=some (.string b):=(zaf (zay w (.cells #[.string a,.string b] 23)) 1).trans rfl
 have hba:=zaa (Below.refl w.heap.size w) (.cells #[.string a,.string b] 23)
 go_enter Tryz.func101,Tryz.ntmps101
 go_wp2_with fail
 have hs0:=hba.size
 generalize w.alloc (.cells #[.string a,.string b] 23)=W0 at *
 generalize hBe:w.heap.size=B0 at c0 c1 ⊢
 have HBE:=Lib.hid hBe
 clear hBe
 go_region_held3 (fun w'=>w'.cell? ⟨B0,0,none⟩=some (.string a)∧w'.cell? ⟨B0,1,none⟩=some (.string b)) (refine ⟨?_,?_⟩<;>(repeat (with_reducible first|assumption|refine zb4 ?_|refine bcell hb2 ?_|refine bcell hb1 ?_)))
  ((first
   | (go_simp; go_at_call 106; refine (HW _).mono ?_; rintro e w1 ⟨D,rfl,hD,hx1,hb1⟩)
   | (go_simp; go_at_call 107; refine (HN _).mono ?_; rintro e w2 ⟨rfl,hb2⟩)
   ))
 all_goals
  have hBW:Below w.heap.size w w2:=(by repeat (with_reducible first|exact hba|apply zap|refine bthen ?_ hb2|refine bthen ?_ hb1))
  clear hx1
  go_wp2
  go_ret
  exact ⟨rfl,hBW⟩
theorem read_zero (x:Int) (w:World) (hx:x.natAbs<10^600) :
  Calls Tryz.prog 101 #[.agg #[.string (wtext x),.string (T 0)]] w fun e w'=>e = .returned (.pointer none)∧Below w.heap.size w w':=by
 have HW:=fun W=>zcj x W hx
 have HN:=fun W=>za9 0 W (Nat.pow_pos (by decide))
 clear hx
 generalize wtext x=a at *
 generalize T 0=b at *
 have c0:(w.alloc (.cells #[.string a,.string b] 23)).cell? ⟨w.heap.size,0,none⟩=some (.string a):=(zaf (zay w (.cells #[.string a,.string b] 23)) 0).trans rfl
 have c1:(w.alloc (.cells #[.string a,.string b] 23)).cell? ⟨w.heap.size,1,none⟩=some (.string b):=(zaf (zay w (.cells #[.string a,.string b] 23)) 1).trans rfl
 have hba:=zaa (Below.refl w.heap.size w) (.cells #[.string a,.string b] 23)
 go_enter Tryz.func101,Tryz.ntmps101
 go_wp2_with fail
 have hs0:=hba.size
 generalize w.alloc (.cells #[.string a,.string b] 23)=W0 at *
 generalize hBe:w.heap.size=B0 at c0 c1 ⊢
 have HBE:=Lib.hid hBe
 clear hBe
 go_region_held3 (fun w'=>w'.cell? ⟨B0,0,none⟩=some (.string a)∧w'.cell? ⟨B0,1,none⟩=some (.string b)) (refine ⟨?_,?_⟩<;>(repeat (with_reducible first|assumption|refine zb4 ?_|refine bcell hb2 ?_|refine bcell hb1 ?_)))
  ((first
   | (go_simp; go_at_call 106; refine (HW _).mono ?_; rintro e w1 ⟨D,rfl,hD,hx1,hb1⟩)
   | (go_simp; go_at_call 107; refine (HN _).mono ?_; rintro e w2 ⟨E,rfl,hE,hy2,hb2⟩)
   ))
 all_goals
  have hBW:Below w.heap.size w w2:=(by repeat (with_reducible first|exact hba|apply zap|refine bthen ?_ hb2|refine bthen ?_ hb1))
  clear hx1
  go_wp2_with fail
  refine (zaD E 0 _ _ hy2).mono ?_
  rintro e w3 ⟨rfl,rfl⟩
  go_wp2
  go_ret
  exact ⟨rfl,hBW⟩
theorem read_gcd (x:Int) (n:Nat) (w:World) (hx:x.natAbs<10^600) (hn:n<10^600) (hn0:0<n) (hg:Int.gcd x n≠1) :
  Calls Tryz.prog 101 #[.agg #[.string (wtext x),.string (T n)]] w fun e w'=>e = .returned (.pointer none)∧Below w.heap.size w w':=by
 have HW:=fun W=>zcj x W hx
 have HN:=fun W=>za9 n W hn
 have HX:=Lib.hid (And.intro (bd600' hx) (bd600 hn))
 have hne:(((n:Nat):Int).sign == 0)=false:=beq_eq_false_iff_ne.2 (fun h=>by have:=Int.sign_eq_zero_iff_zero.1 h; omega)
 have hsg:((((Int.gcd x n:Nat):Int)-1).sign == 0)=false:=beq_eq_false_iff_ne.2 (fun h=>hg (by have:=Int.sign_eq_zero_iff_zero.1 h; omega))
 have HGG:=Lib.hid hg
 clear hx hn hg
 have hu105:=Tryz.underlying105
 generalize wtext x=a at *
 generalize T n=b at *
 have c0:(w.alloc (.cells #[.string a,.string b] 23)).cell? ⟨w.heap.size,0,none⟩=some (.string a):=(zaf (zay w (.cells #[.string a,.string b] 23)) 0).trans rfl
 have c1:(w.alloc (.cells #[.string a,.string b] 23)).cell? ⟨w.heap.size,1,none⟩=some (.string b):=(zaf (zay w (.cells #[.string a,.string b] 23)) 1).trans rfl
 have hba:=zaa (Below.refl w.heap.size w) (.cells #[.string a,.string b] 23)
 go_enter Tryz.func101,Tryz.ntmps101
 go_wp2_with fail
 have hs0:=hba.size
 generalize w.alloc (.cells #[.string a,.string b] 23)=W0 at *
 generalize hBe:w.heap.size=B0 at c0 c1 ⊢
 have HBE:=Lib.hid hBe
 clear hBe
 go_region_held3 (fun w'=>w'.cell? ⟨B0,0,none⟩=some (.string a)∧w'.cell? ⟨B0,1,none⟩=some (.string b)) (refine ⟨?_,?_⟩<;>(repeat (with_reducible first|assumption|refine zb4 ?_|refine bcell hb2 ?_|refine bcell hb1 ?_)))
  ((first
   | (go_simp; go_at_call 106; refine (HW _).mono ?_; rintro e w1 ⟨D,rfl,hD,hx1,hb1⟩; have hlD:=hx1.lt; (try simp only [World.size_drew] at hD))
   | (go_simp; go_at_call 107; refine (HN _).mono ?_; rintro e w2 ⟨E,rfl,hE,hy2,hb2⟩; (try simp only [World.size_drew] at hE))
   ))
 all_goals
  have hBW:Below w.heap.size w w2:=(by repeat (with_reducible first|exact hba|apply zap|refine bthen ?_ hb2|refine bthen ?_ hb1))
  have hx2:IntAt w2 D 0 x:=(by repeat (with_reducible first|exact hx1|refine IntAt.below ?_ (zad _)|refine IntAt.below ?_ hb2))
  have hlD2:=hx2.lt
  have hlE:=hy2.lt
  clear hx1
  go_wp2_with fail
  refine (zaD E 0 _ _ hy2).mono ?_
  rintro e w3 ⟨rfl,rfl⟩
  have hnewG:=(IntAt.new w2 105 (by decide)).slot
  go_wp2_with fail
  have hn1:=slot1 w2
  have hba1:=bthen (zaa (Below.refl w2.heap.size w2) (.cells #[.bool false,.slice none 0 0] 105)) (zaa (Below.refl _ _) (.cells #[.bool false,.slice none 0 0] 105))
  have hx3:=hx2.below hba1
  refine (zcP (w2.heap.size+1) 0 D 0 x _ hn1 hx3 HX.out.1 (by unfold big; omega)).mono ?_
  rintro e w3 ⟨rfl,ha3,hu3⟩
  have hy3:IntAt w3 E 0 n:=(hy2.below hba1).upd hu3 (Or.inl (by omega))
  have hx4:=hx3.upd hu3 (Or.inl (by omega))
  have hG3:Slot w3 w2.heap.size 0:=(hnewG.below (zaa (Below.refl _ _) (.cells #[.bool false,.slice none 0 0] 105))).upd hu3
  have hB3:Below w2.heap.size w2 w3:=hu3.new hba1 (by omega)
  clear hx2 hx3 hy2 hn1 hnewG hba1 hu3
  go_wp2_with fail
  refine (gcd_calls w2.heap.size 0 (w2.heap.size+1) 0 E 0 _ _ (x.natAbs:Int) (n:Int) _ hG3 ha3 hy3 (by omega) (by omega) HX.out.1.abs HX.out.2 (by unfold big; omega)).mono ?_
  rintro e w4 ⟨rfl,hg4,hu4⟩
  have hg4':IntAt w4 w2.heap.size 0 ((Int.gcd x n:Nat):Int):=hg4
  have hx5:=hx4.upd hu4 (Or.inl (by omega))
  have hy5:=hy3.upd hu4 (Or.inl (by omega))
  have hB4:=hu4.new hB3 (Nat.le_refl _)
  clear hg4 hx4 hy3 hG3 ha3 hu4 hB3
  go_wp2_with fail
  refine (za6 1 _ (by decide) (by decide)).mono ?_
  rintro e w5 ⟨N1,rfl,hN1,hn5,hb5⟩
  have hg5:=hg4'.below hb5
  go_wp2_with fail
  refine (zdx w2.heap.size 0 N1 0 _ 1 _ hg5 hn5).mono ?_
  rintro e w6 ⟨rfl,hb6⟩
  have hx6:=(hx5.below hb5).below hb6
  have hy6:=(hy5.below hb5).below hb6
  have hB6:=bthen hBW (bthen hB4 (bthen hb5 hb6))
  clear hx5 hy5 hg4' hg5 hn5
  go_wp2
  go_ret
  exact ⟨rfl,hB6⟩
theorem read_one (x:Int) (n:Nat) (w:World) (hx:x.natAbs<10^600) (hn:n<10^600) (hn0:0<n) (hg:Int.gcd x n=1) :
  Calls Tryz.prog 101 #[.agg #[.string (wtext x),.string (T n)]] w fun e w'=>∃ g,e = .returned (.pointer (some ⟨g,0,none⟩))∧w.heap.size≤g∧RatAt w' g (Rat.divInt x n)∧Below w.heap.size w w':=by
 have HW:=fun W=>zcj x W hx
 have HN:=fun W=>za9 n W hn
 have HX:=Lib.hid (And.intro (bd600' hx) (bd600 hn))
 have hne:(((n:Nat):Int).sign == 0)=false:=beq_eq_false_iff_ne.2 (fun h=>by have:=Int.sign_eq_zero_iff_zero.1 h; omega)
 have hsg:((((Int.gcd x n:Nat):Int)-1).sign == 0)=true:=by rw [hg]; rfl
 have HGG:=Lib.hid hg
 clear hx hn hg
 have hu105:=Tryz.underlying105
 generalize wtext x=a at *
 generalize T n=b at *
 have c0:(w.alloc (.cells #[.string a,.string b] 23)).cell? ⟨w.heap.size,0,none⟩=some (.string a):=(zaf (zay w (.cells #[.string a,.string b] 23)) 0).trans rfl
 have c1:(w.alloc (.cells #[.string a,.string b] 23)).cell? ⟨w.heap.size,1,none⟩=some (.string b):=(zaf (zay w (.cells #[.string a,.string b] 23)) 1).trans rfl
 have hba:=zaa (Below.refl w.heap.size w) (.cells #[.string a,.string b] 23)
 go_enter Tryz.func101,Tryz.ntmps101
 go_wp2_with fail
 have hs0:=hba.size
 generalize w.alloc (.cells #[.string a,.string b] 23)=W0 at *
 generalize hBe:w.heap.size=B0 at c0 c1 ⊢
 have HBE:=Lib.hid hBe
 clear hBe
 go_region_held3 (fun w'=>w'.cell? ⟨B0,0,none⟩=some (.string a)∧w'.cell? ⟨B0,1,none⟩=some (.string b)) (refine ⟨?_,?_⟩<;>(repeat (with_reducible first|assumption|refine zb4 ?_|refine bcell hb2 ?_|refine bcell hb1 ?_)))
  ((first
   | (go_simp; go_at_call 106; refine (HW _).mono ?_; rintro e w1 ⟨D,rfl,hD,hx1,hb1⟩; have hlD:=hx1.lt; (try simp only [World.size_drew] at hD))
   | (go_simp; go_at_call 107; refine (HN _).mono ?_; rintro e w2 ⟨E,rfl,hE,hy2,hb2⟩; (try simp only [World.size_drew] at hE))
   ))
 all_goals
  have hBW:Below w.heap.size w w2:=(by repeat (with_reducible first|exact hba|apply zap|refine bthen ?_ hb2|refine bthen ?_ hb1))
  have hx2:IntAt w2 D 0 x:=(by repeat (with_reducible first|exact hx1|refine IntAt.below ?_ (zad _)|refine IntAt.below ?_ hb2))
  have hlD2:=hx2.lt
  have hlE:=hy2.lt
  clear hx1
  go_wp2_with fail
  refine (zaD E 0 _ _ hy2).mono ?_
  rintro e w3 ⟨rfl,rfl⟩
  have hnewG:=(IntAt.new w2 105 (by decide)).slot
  go_wp2_with fail
  have hn1:=slot1 w2
  have hba1:=bthen (zaa (Below.refl w2.heap.size w2) (.cells #[.bool false,.slice none 0 0] 105)) (zaa (Below.refl _ _) (.cells #[.bool false,.slice none 0 0] 105))
  have hx3:=hx2.below hba1
  refine (zcP (w2.heap.size+1) 0 D 0 x _ hn1 hx3 HX.out.1 (by unfold big; omega)).mono ?_
  rintro e w3 ⟨rfl,ha3,hu3⟩
  have hy3:IntAt w3 E 0 n:=(hy2.below hba1).upd hu3 (Or.inl (by omega))
  have hx4:=hx3.upd hu3 (Or.inl (by omega))
  have hG3:Slot w3 w2.heap.size 0:=(hnewG.below (zaa (Below.refl _ _) (.cells #[.bool false,.slice none 0 0] 105))).upd hu3
  have hB3:Below w2.heap.size w2 w3:=hu3.new hba1 (by omega)
  clear hx2 hx3 hy2 hn1 hnewG hba1 hu3
  go_wp2_with fail
  refine (gcd_calls w2.heap.size 0 (w2.heap.size+1) 0 E 0 _ _ (x.natAbs:Int) (n:Int) _ hG3 ha3 hy3 (by omega) (by omega) HX.out.1.abs HX.out.2 (by unfold big; omega)).mono ?_
  rintro e w4 ⟨rfl,hg4,hu4⟩
  have hg4':IntAt w4 w2.heap.size 0 ((Int.gcd x n:Nat):Int):=hg4
  have hx5:=hx4.upd hu4 (Or.inl (by omega))
  have hy5:=hy3.upd hu4 (Or.inl (by omega))
  have hB4:=hu4.new hB3 (Nat.le_refl _)
  clear hg4 hx4 hy3 hG3 ha3 hu4 hB3
  go_wp2_with fail
  refine (za6 1 _ (by decide) (by decide)).mono ?_
  rintro e w5 ⟨N1,rfl,hN1,hn5,hb5⟩
  have hg5:=hg4'.below hb5
  go_wp2_with fail
  refine (zdx w2.heap.size 0 N1 0 _ 1 _ hg5 hn5).mono ?_
  rintro e w6 ⟨rfl,hb6⟩
  have hx6:=(hx5.below hb5).below hb6
  have hy6:=(hy5.below hb5).below hb6
  have hB6:=bthen hBW (bthen hB4 (bthen hb5 hb6))
  clear hx5 hy5 hg4' hg5 hn5
  have hnewR:=RatAt.new w6 112 (by decide)
  have hbaR:=zaa (Below.refl w6.heap.size w6) (.cells #[.bool false,.slice none 0 0,.bool false,.slice none 0 0] 112)
  have hu112:=Tryz.underlying112
  have hs6:=hB6.size
  go_wp2_with fail
  refine (zbg w6.heap.size D 0 E 0 x (n:Int) _ hnewR.slot (hx6.below hbaR) (hy6.below hbaR) (by omega) HX.out.1 HX.out.2 (by unfold big; omega)).mono ?_
  rintro e w7 ⟨rfl,hz7,hu7⟩
  go_wp2
  go_ret
  exact ⟨_,rfl,hs6,hz7,hu7.new (bthen hB6 hbaR) hs6⟩
theorem read_yes (x:Rat) (w:World) (hn:x.num.natAbs<10^600) (hd:x.den<10^600) :
  Calls Tryz.prog 101 #[.agg #[.string (wtext x.num),.string (T x.den)]] w fun e w'=>∃ g,e = .returned (.pointer (some ⟨g,0,none⟩))∧w.heap.size≤g∧RatAt w' g x∧Below w.heap.size w w':=by
 have h:=read_one x.num x.den w hn hd x.den_pos x.reduced
 rwa [zbZ] at h
theorem read_no (a b:ByteArray) (w:World) (h:¬ ∃ x,RR a b x) :
  Calls Tryz.prog 101 #[.agg #[.string a,.string b]] w fun e w'=>e = .returned (.pointer none)∧Below w.heap.size w w':=by
 by_cases h1:∃ x,WR a x
 ·obtain ⟨x,rfl,hx⟩:=h1
  cases h2:rightB b
  ·exact read_noN x b w hx h2
  ·obtain ⟨n,rfl,hn⟩:=right_iff.1 h2
   rcases Nat.eq_zero_or_pos n with h0|h0
   ·subst h0; exact read_zero x w hx
   ·refine read_gcd x n w hx hn h0 (fun hg=>h ⟨⟨x,n,by omega,hg⟩,rfl,rfl,hx,hn⟩)
 ·exact read_noW a b w h1
def Sm (x:Rat):Prop:=x.num.natAbs<10^600∧x.den<10^600
noncomputable instance (x:Rat):Decidable (Sm x):=Classical.propDecidable _
noncomputable def toldR (x:Rat):ByteArray×ByteArray×Int:=if Sm x then (wtext x.num,T x.den,0) else (⟨#[]⟩,⟨#[]⟩,7)
theorem string_new (b o:Nat) (x:Int) (w:World) (hx:IntAt w b o x) {n:Nat} (hs:Bd n x) (hn:n≤big) :
  Calls Tryz.prog 104 #[.pointer (some ⟨b,o,none⟩)] w fun e w'=>e = .returned (.string (wtext x))∧Below w.heap.size w w':=zcc b o x w hx hs hn
theorem trim_wtext (x:Int):Lib.trimPrefix (wtext x).data.toList [45]=(T x.natAbs).data.toList:=by
 by_cases h:x<0
 ·rw [zaK h]; simp [Lib.trimPrefix,Lib.hasPrefix]
 ·rw [zaN (by omega)]
  rcases cut_minus (T x.natAbs) with ⟨t,ht,_⟩|⟨_,h1,_⟩
  ·exact absurd ht (zcQ _ _)
  ·exact h1
theorem zcl (g:Nat) (x:Rat) (w:World) (hx:RatAt w g x) {n:Nat} (hs:Bdr n x) (hn:n≤big) :
  Calls Tryz.prog 108 #[.pointer (some ⟨g,0,none⟩)] w fun e w'=>e = .returned (.tuple #[.agg #[.string (toldR x).1,.string (toldR x).2.1],.int .i64 (toldR x).2.2])∧Below w.heap.size w w':=by
 have HB:=Lib.hid hs
 have HT:=fun W=>Tryz.strings_TrimPrefix (wtext x.num) ⟨#[45]⟩ W
 simp only [trim_wtext] at HT
 rw [←zax (rfl:(T x.num.natAbs).data.toList=_)] at HT
 have HS:=Lib.hid (show toldR x=if Sm x then (wtext x.num,T x.den,0) else (⟨#[]⟩,⟨#[]⟩,7) from rfl)
 have hd1:Bd n (x.den:Int):=hs.2
 go_enter Tryz.func108,Tryz.ntmps108
 have hba:=zaa (Below.refl w.heap.size w) (.cells #[.string ⟨#[]⟩,.string ⟨#[]⟩] 23)
 have hbk:=zay w (.cells #[.string ⟨#[]⟩,.string ⟨#[]⟩] 23)
 go_wp2_with fail
 generalize w.alloc (.cells #[.string ⟨#[]⟩,.string ⟨#[]⟩] 23)=W0 at *
 generalize hBe:w.heap.size=B0 at hbk ⊢
 have HBE:=Lib.hid hBe
 clear hBe
 refine (num_new g x _ (hx.below hba) hs hn).mono ?_
 rintro e w1 ⟨D1,rfl,hD1,hx1,hb1⟩
 go_wp2_with fail
 refine (zcc D1 0 x.num _ hx1 hs.1 hn).mono ?_
 rintro e w2 ⟨rfl,hb2⟩
 have hB2:=bthen hba (bthen hb1 hb2)
 have hk2:=bthen hb1 hb2
 clear hx1
 go_wp2_with fail
 refine (zbD g x _ (hx.below hB2) hs hn).mono ?_
 rintro e w3 ⟨D3,rfl,hD3,hx3,hb3⟩
 go_wp2_with fail
 refine (zcc D3 0 x.den _ hx3 hd1 hn).mono ?_
 rintro e w4 ⟨rfl,hb4⟩
 have hB4:=bthen hB2 (bthen hb3 hb4)
 have hk4:=bthen hk2 (bthen hb3 hb4)
 have hbk4:=(hk4.block _ (zas hbk)).trans hbk
 rw [zaN (show (0:Int)≤(x.den:Int) by omega),Int.natAbs_natCast]
 clear hx3 hx
 go_wp2_with fail
 have hba5:=zaa (Below.refl w4.heap.size w4) (.cells #[.string (wtext x.num),.string (T x.den)] 23)
 have hbk5:=zay w4 (.cells #[.string (wtext x.num),.string (T x.den)] 23)
 have hb5k:=(hba5.block _ (zas hbk4)).trans hbk4
 have hB5:=bthen hB4 hba5
 have hne:B0≠w4.heap.size:=by have:=zas hbk4; omega
 generalize w4.alloc (.cells #[.string (wtext x.num),.string (T x.den)] 23)=w5 at *
 generalize w4.heap.size=R at *
 have cB0:=(zaf hb5k 0).trans (show _=some (Value.string ⟨#[]⟩) from rfl)
 have cB1:=(zaf hb5k 1).trans (show _=some (Value.string ⟨#[]⟩) from rfl)
 have fB0:=zae hb5k 0
 have fB1:=zae hb5k 1
 have cR0:=(zaf hbk5 0).trans (show _=some (Value.string (wtext x.num)) from rfl)
 have cR1:=(zaf hbk5 1).trans (show _=some (Value.string (T x.den)) from rfl)
 have HBK:=Lib.hid hb5k
 have hz1:=zat hb5k 0 (.string ⟨#[]⟩)
 have hz2:=zat hz1 1 (.string ⟨#[]⟩)
 have HZ2:=Lib.hid (hz2.trans (show _=some (Obj.cells #[.string ⟨#[]⟩,.string ⟨#[]⟩] 23 (0,0)) from rfl))
 have HBZ:=Lib.hid (zag (zag (g:=B0) (j:=0) (v:=.string ⟨#[]⟩) hB5 (by have:=HBE.out; omega)) (j:=1) (v:=.string ⟨#[]⟩) (g:=B0) (by have:=HBE.out; omega))
 clear hz1 hz2
 clear hbk hbk4 hbk5 hb5k hk2 hk4 hb1 hb2 hb3 hb4 hba5 hD1 hD3
 have HSM:=Lib.hid (show (Sm x↔(T x.num.natAbs).size≤600∧(T x.den).size≤600) from ⟨fun h=>⟨(zaw (by decide)).2 h.1,(zaw (by decide)).2 h.2⟩,fun h=>⟨(zaw (by decide)).1 h.1,(zaw (by decide)).1 h.2⟩⟩)
 by_cases h1:(T x.num.natAbs).size≤600
 ·have h1I:¬ (600:Int)<((T x.num.natAbs).size:Int):=by omega
  by_cases h2:(T x.den).size≤600
  ·have h2I:¬ (600:Int)<((T x.den).size:Int):=by omega
   refine (HT _).mono ?_
   rintro e w6 ⟨rfl,rfl⟩
   have hs1:=zat HBK.out 0 (.string (wtext x.num))
   have hs2:=zat hs1 1 (.string (T x.den))
   have HS2:=Lib.hid (hs2.trans (show _=some (Obj.cells #[.string (wtext x.num),.string (T x.den)] 23 (0,0)) from rfl))
   have hBF:=zag (zag (g:=B0) (j:=0) (v:=.string (wtext x.num)) hB5 (by have:=HBE.out; omega)) (j:=1) (v:=.string (T x.den)) (g:=B0) (by have:=HBE.out; omega)
   have HTE:=Lib.hid (show toldR x=(wtext x.num,T x.den,0) by rw [HS.out,if_pos (HSM.out.2 ⟨h1,h2⟩)])
   clear hs1 hs2 h1 h2
   go_wp2
   refine bodyPost_ret (zaR rfl _ _ B0 23 #[.string (wtext x.num),.string (T x.den)] (0,0) _ rfl HS2.out Tryz.underlying23 rfl (by kernel_rfl)) rfl ?_
   exact ⟨by rw [HTE.out]; rfl,hBF⟩
  ·have h2I:(600:Int)<((T x.den).size:Int):=by omega
   refine (HT _).mono ?_
   rintro e w6 ⟨rfl,rfl⟩
   have HTE:=Lib.hid (show toldR x=(⟨#[]⟩,⟨#[]⟩,7) by rw [HS.out,if_neg (fun h=>h2 (HSM.out.1 h).2)])
   clear h1 h2
   go_wp2
   refine bodyPost_ret (zaR rfl _ _ B0 23 #[.string ⟨#[]⟩,.string ⟨#[]⟩] (0,0) _ rfl HZ2.out Tryz.underlying23 rfl (by kernel_rfl)) rfl ?_
   exact ⟨by rw [HTE.out]; rfl,HBZ.out⟩
 ·have h1I:(600:Int)<((T x.num.natAbs).size:Int):=by omega
  refine (HT _).mono ?_
  rintro e w6 ⟨rfl,rfl⟩
  have HTE:=Lib.hid (show toldR x=(⟨#[]⟩,⟨#[]⟩,7) by rw [HS.out,if_neg (fun h=>h1 (HSM.out.1 h).1)])
  clear h1
  go_wp2
  refine bodyPost_ret (zaR rfl _ _ B0 23 #[.string ⟨#[]⟩,.string ⟨#[]⟩] (0,0) _ rfl HZ2.out Tryz.underlying23 rfl (by kernel_rfl)) rfl ?_
  exact ⟨by rw [HTE.out]; rfl,HBZ.out⟩
end Go.Proofs.ZP
end
section
namespace Go.Proofs.ZQ
open Go.RowKit Go.Proofs.ZW.Wa Go.Proofs.ZP
noncomputable def rat_Right.f (a0_0 a0_1:ByteArray):Option Bool:=by classical exact some (decide (∃ x,RR a0_0 a0_1 x))
def rat_Of.f (a0:Int):Option (ByteArray×ByteArray):=if -9223372036854775808≤a0∧a0<9223372036854775808 then some (wtext a0,⟨#[49]⟩) else none
def nval (s:ByteArray):Option Nat:=if rightB s then some (dval s.data.toList) else none
noncomputable def wval (s:ByteArray):Option Int:=by classical exact if h:∃ x,WR s x then some h.choose else if s=⟨#[45,48]⟩ then some 0 else none
theorem zdb {x y:Int} (h:wtext x=wtext y):x=y:=by
 have h2:(wtext x).data.toList=(wtext y).data.toList:=by rw [h]
 by_cases hx:x<0<;>by_cases hy:y<0
 ·rw [zaK hx,zaK hy] at h2
  injection h2 with _ h2
  have:=T_inj ((zax h2).trans (zax rfl).symm)
  omega
 ·rw [zaK hx,zaN (by omega)] at h2
  exact absurd h2.symm (zcQ _ _)
 ·rw [zaK hy,zaN (by omega)] at h2
  exact absurd h2 (zcQ _ _)
 ·rw [zaN (by omega),zaN (by omega)] at h
  have:=T_inj h
  omega
noncomputable def rat_New.f (a0 a1:ByteArray):Option (ByteArray×ByteArray×Int):=
 match wval a0,nval a1 with
 | some x,some n=>if n=0 then some (⟨#[]⟩,⟨#[]⟩,8) else some (toldR (Rat.divInt x n))
 | _,_=>some (⟨#[]⟩,⟨#[]⟩,3)
end Go.Proofs.ZQ
end
section
namespace Go.Proofs.ZP
open Go.RowKit Go.Proofs.ZW.Wa
def RowR (w:World) (A:Option Addr) (ps:List (ByteArray×ByteArray)):Prop:=
 ∀ j (h:j<ps.length),∃ b o,A=some ⟨b,o,none⟩∧b<w.heap.size∧w.cell? ⟨b,o+j*2,none⟩=some (.string ps[j].1)∧w.cell? ⟨b,o+j*2+1,none⟩=some (.string ps[j].2)
theorem RowR.below {w w':World} {A:Option Addr} {ps:List (ByteArray×ByteArray)} (h:RowR w A ps) (hb:Below w.heap.size w w'):RowR w' A ps:=fun j hj=>by
 obtain ⟨b,o,e,hl,h1,h2⟩:=h j hj
 have hs:=hb.size
 exact ⟨b,o,e,by omega,(hb.cell (p:=⟨b,o+j*2,none⟩) hl).trans h1,(hb.cell (p:=⟨b,o+j*2+1,none⟩) hl).trans h2⟩
def ptrs (n:Nat) (ds:List Nat):List Value:=ds.map (fun d=>Value.pointer (some ⟨d,0,none⟩))++List.replicate (n-ds.length) (.pointer none)
theorem zbJ {n:Nat} {ds:List Nat} (h:ds.length≤n):(ptrs n ds).length=n:=by unfold ptrs; simp; omega
theorem ptrs_snoc {n:Nat} {ds:List Nat} (h:ds.length<n) (d:Nat):(ptrs n ds).take ds.length++([Value.pointer (some ⟨d,0,none⟩)]++(ptrs n ds).drop (ds.length+1))=ptrs n (ds ++ [d]):=by
 have hl:(ds.map (fun d=>Value.pointer (some ⟨d,0,none⟩))).length=ds.length:=by simp
 unfold ptrs
 rw [List.take_left' hl,List.drop_append,hl,show ds.length+1-ds.length=1 by omega,List.drop_of_length_le (by rw [hl]; omega),List.nil_append,List.drop_replicate]
 simp only [List.map_append,List.map_cons,List.map_nil,List.length_append,List.length_singleton,List.append_assoc]
 congr 3
theorem ptrs_at {n:Nat} {ds:List Nat} {j:Nat} (h:j<ds.length):(ptrs n ds)[j]? = some (.pointer (some ⟨ds[j],0,none⟩)):=by
 unfold ptrs
 rw [List.getElem?_append_left (by simpa using h)]
 simp [h]
theorem upd_setRow {w:World} {g:Nat} {cur new:Array Value} {t:TypeId} (hg:w.heap[g]? = some (.cells cur t (0,0))) (ht:t≠171) (hs:new.size=cur.size):Upd w (w.setRow g new) g 0 cur.size where
 os:=rfl
 tape:=rfl
 output:=rfl
 size:=by simp [World.setRow]
 other:=fun k _ hne=>setRow_other w g k new hne
 word:=fun k cs' hk=>setRow_other w g k new (by
  rintro rfl
  rw [hg] at hk
  injection hk with hk
  injection hk with _ hk
  exact ht hk)
 same:=fun cs' t' hk=>by
  rw [hg] at hk
  injection hk with hk
  injection hk with e1 e2
  subst e1; subst e2
  exact ⟨new,setRow_heap w g cur new t (0,0) hg,hs,fun i hi=>by
   rcases hi with hi|hi
   ·omega
   ·rw [Array.getElem?_eq_none (by omega),Array.getElem?_eq_none (by omega)]⟩
structure ASt (w wr:World) (g n:Nat) (X:Nat→Rat) (ds:List Nat):Prop where
 le:ds.length≤n
 blk:wr.heap[g]? = some (.cells (ptrs n ds).toArray 82 (0,0))
 at_:∀ j (h:j<ds.length),w.heap.size≤ds[j]∧g≠ds[j]∧RatAt wr ds[j] (X j)
 below:Below w.heap.size w wr
 ge:w.heap.size≤g
theorem ASt.below' {w wr w':World} {g n:Nat} {X:Nat→Rat} {ds:List Nat} (h:ASt w wr g n X ds) (hb:Below wr.heap.size wr w'):ASt w w' g n X ds where
 le:=h.le
 blk:=(hb.block _ (zas h.blk)).trans h.blk
 at_:=fun j hj=>by
  obtain ⟨h1,h2,h3⟩:=h.at_ j hj
  exact ⟨h1,h2,h3.below hb⟩
 below:=bthen h.below hb
 ge:=h.ge
theorem ASt.more {w wr:World} {g n:Nat} {X:Nat→Rat} {ds:List Nat} (h:ASt w wr g n X ds) (hl:ds.length<n) (d:Nat) (hd:w.heap.size≤d) (hne:g≠d) (hx:RatAt wr d (X ds.length)) :
  Hid (ASt w (wr.setRow g ((ptrs n ds).take ds.length++([Value.pointer (some ⟨d,0,none⟩)]++(ptrs n ds).drop (ds.length+1))).toArray) g n X (ds ++ [d])):=by
 rw [ptrs_snoc hl]
 have hu:=upd_setRow (new:=(ptrs n (ds ++ [d])).toArray) h.blk (by decide) (by
  simp only [List.size_toArray]
  rw [zbJ (by simp; omega),zbJ h.le])
 exact {
  le:=by simp; omega
  blk:=setRow_heap _ _ _ _ _ _ h.blk
  at_:=fun j hj=>by
   rw [List.length_append,List.length_singleton] at hj
   by_cases e:j<ds.length
   ·obtain ⟨h1,h2,h3⟩:=h.at_ j e
    rw [List.getElem_append_left e]
    exact ⟨h1,h2,h3.upd hu (fun e=>h2 e.symm)⟩
   ·have:j=ds.length:=by omega
    subst this
    rw [List.getElem_append_right (Nat.le_refl _)]
    simp only [Nat.sub_self,List.getElem_cons_zero]
    exact ⟨hd,hne,hx.upd hu (fun e=>hne e.symm)⟩
  below:=below_setRow h.below h.ge _
  ge:=h.ge }
theorem made_ptrs (n:Nat):madeCells #[Value.pointer none] n=(ptrs n []).toArray:=by
 unfold ptrs
 apply Array.ext
 ·simp [size_madeCells]
 ·intro i h1 h2
  simp [madeCells,Nat.mod_one]
theorem Upd.keepB {w w':World} {b lo hi:Nat} (h:Upd w w' b lo hi):KeepB w w' b:=⟨h.os,h.tape,h.output,h.size,h.other⟩
noncomputable def tell (why:Int) (r:Rat):ByteArray×ByteArray×Int:=if why=0 then toldR r else (⟨#[]⟩,⟨#[]⟩,why)
def tenR (n:Int):Rat:=if n<0 then (((10:Int)^n.natAbs:Int):Rat)⁻¹ else (((10:Int)^n.natAbs:Int):Rat)
theorem bd_ten (k:Nat):Bd (4*k+1) ((10:Int)^k):=(show Bd 4 (10:Int) by unfold Bd; decide).pow (by decide) k
theorem ten_ne (k:Nat):(((10:Int)^k:Int):Rat)≠0:=fun h=>by
 have h1:=Rat.intCast_eq_zero_iff.1 h
 have h2:(0:Int)<10^k:=Int.pow_pos (by decide)
 omega
theorem Bdr.tenR (n:Int):Bdr (4*n.natAbs+1) (tenR n):=by
 unfold ZP.tenR
 split
 ·exact (Bdr.int (bd_ten _) (by omega)).inv (ten_ne _)
 ·exact Bdr.int (bd_ten _) (by omega)
theorem zb6 (n:Int) (w:World) (h0 : -100000≤n) (h1:n≤100000) :
  Calls Tryz.prog 136 #[.int .i64 n] w fun e w'=>∃ g,e = .returned (.pointer (some ⟨g,0,none⟩))∧w.heap.size≤g∧RatAt w' g (tenR n)∧Below w.heap.size w w':=by
 have hnew:=IntAt.new w 105 (by decide)
 have hba:=zaa (Below.refl w.heap.size w) (.cells #[.bool false,.slice none 0 0] 105)
 have hu105:=Tryz.underlying105
 have hu112:=Tryz.underlying112
 have HBT:=Lib.hid (bd_ten n.natAbs)
 by_cases hn:n<0
 ·have HT:=Lib.hid (show tenR n=(((10:Int)^n.natAbs:Int):Rat)⁻¹ by unfold tenR; rw [if_pos hn])
  go_enter Tryz.func136,Tryz.ntmps136
  go_wp2_with fail
  refine (za6 10 _ (by decide) (by decide)).mono ?_
  rintro e w1 ⟨N1,rfl,hN1,hx1,hb1⟩
  have hz1:=hnew.slot.below hb1
  have hB1:=bthen hba hb1
  have hl1:=hx1.lt
  go_wp2_with fail
  rw [show max n (-n)=((n.natAbs:Nat):Int) by omega]
  refine (za6 (n.natAbs:Int) _ (by omega) (by omega)).mono ?_
  rintro e w2 ⟨N2,rfl,hN2,hx2,hb2⟩
  have hx12:=hx1.below hb2
  have hz2:=hz1.below hb2
  have hB2:=bthen hB1 hb2
  clear hnew hba hb1 hb2 hx1 hz1 hB1
  go_wp2_with fail
  refine (exp_calls w.heap.size 0 N1 0 N2 0 _ 10 n.natAbs _ hz2 hx12 hx2 (show Bd 4 (10:Int) by unfold Bd; decide) (by decide) (by unfold big; omega)).mono ?_
  rintro e w3 ⟨rfl,hp3,hu3⟩
  have hB3:=hu3.new hB2 (Nat.le_refl _)
  have hs3:=hB3.size
  have hnewR:=RatAt.new w3 112 (by decide)
  have hbaR:=zaa (Below.refl w3.heap.size w3) (.cells #[.bool false,.slice none 0 0,.bool false,.slice none 0 0] 112)
  clear hx12 hx2 hz2 hu3
  go_wp2_with fail
  refine (zaJ w3.heap.size w.heap.size 0 _ _ hnewR.slot (hp3.below hbaR) HBT.out (by unfold big; omega)).mono ?_
  rintro e w4 ⟨rfl,hz4,hu4⟩
  have hB4:=hu4.new (bthen hB3 hbaR) hs3
  clear hp3 hnewR hbaR hu4
  go_wp2_with fail
  refine (inv_calls w3.heap.size w3.heap.size _ _ hz4.slot hz4 (ten_ne _) (Bdr.int HBT.out (by omega)) (by unfold big; omega)).mono ?_
  rintro e w5 ⟨rfl,hz5,hu5⟩
  go_wp2
  go_ret
  exact ⟨_,rfl,hs3,by rw [HT.out]; exact hz5,hu5.new hB4 hs3⟩
 ·have HT:=Lib.hid (show tenR n=(((10:Int)^n.natAbs:Int):Rat) by unfold tenR; rw [if_neg hn])
  go_enter Tryz.func136,Tryz.ntmps136
  go_wp2_with fail
  refine (za6 10 _ (by decide) (by decide)).mono ?_
  rintro e w1 ⟨N1,rfl,hN1,hx1,hb1⟩
  have hz1:=hnew.slot.below hb1
  have hB1:=bthen hba hb1
  have hl1:=hx1.lt
  go_wp2_with fail
  rw [show max n (-n)=((n.natAbs:Nat):Int) by omega]
  refine (za6 (n.natAbs:Int) _ (by omega) (by omega)).mono ?_
  rintro e w2 ⟨N2,rfl,hN2,hx2,hb2⟩
  have hx12:=hx1.below hb2
  have hz2:=hz1.below hb2
  have hB2:=bthen hB1 hb2
  clear hnew hba hb1 hb2 hx1 hz1 hB1
  go_wp2_with fail
  refine (exp_calls w.heap.size 0 N1 0 N2 0 _ 10 n.natAbs _ hz2 hx12 hx2 (show Bd 4 (10:Int) by unfold Bd; decide) (by decide) (by unfold big; omega)).mono ?_
  rintro e w3 ⟨rfl,hp3,hu3⟩
  have hB3:=hu3.new hB2 (Nat.le_refl _)
  have hs3:=hB3.size
  have hnewR:=RatAt.new w3 112 (by decide)
  have hbaR:=zaa (Below.refl w3.heap.size w3) (.cells #[.bool false,.slice none 0 0,.bool false,.slice none 0 0] 112)
  clear hx12 hx2 hz2 hu3
  go_wp2_with fail
  refine (zaJ w3.heap.size w.heap.size 0 _ _ hnewR.slot (hp3.below hbaR) HBT.out (by unfold big; omega)).mono ?_
  rintro e w4 ⟨rfl,hz4,hu4⟩
  have hB4:=hu4.new (bthen hB3 hbaR) hs3
  clear hp3 hnewR hbaR hu4
  go_wp2
  go_ret
  exact ⟨_,rfl,hs3,by rw [HT.out]; exact hz4,hB4⟩
theorem floor_calls (g:Nat) (x:Rat) (w:World) (hx:RatAt w g x) {n:Nat} (hs:Bdr n x) (hn:n≤big) :
  Calls Tryz.prog 123 #[.pointer (some ⟨g,0,none⟩)] w fun e w'=>∃ D,e = .returned (.pointer (some ⟨D,0,none⟩))∧w.heap.size≤D∧IntAt w' D 0 x.floor∧Below w.heap.size w w':=by
 have hu105:=Tryz.underlying105
 rw [Rat.floor_def]
 have hdn:=den_ne x
 go_enter Tryz.func123,Tryz.ntmps123
 have hnew:=IntAt.new w 105 (by decide)
 have hba:=zaa (Below.refl w.heap.size w) (.cells #[.bool false,.slice none 0 0] 105)
 have hd1:Bd n (x.den:Int):=hs.2
 have hn1:Bd n x.num:=hs.1
 go_wp2_with fail
 refine (num_new g x _ (hx.below hba) hs hn).mono ?_
 rintro e w1 ⟨N1,rfl,hN1,hx1,hb1⟩
 have hl1:=hx1.lt
 have hxx1:=(hx.below hba).below hb1
 go_wp2_with fail
 refine (zbD g x _ hxx1 hs hn).mono ?_
 rintro e w2 ⟨N2,rfl,hN2,hx2,hb2⟩
 have hl2:=hx2.lt
 have hs1:=hb1.size
 have hs2:=hb2.size
 simp only [World.size_alloc] at hN1 hs1
 have hz2:=(hnew.slot.below hb1).below hb2
 have hx12:=hx1.below hb2
 have hB2:=bthen (bthen hba hb1) hb2
 have hnewM:=IntAt.new w2 105 (by decide)
 have hbaM:=zaa (Below.refl w2.heap.size w2) (.cells #[.bool false,.slice none 0 0] 105)
 clear hnew hba hx hxx1 hb1 hb2 hx1
 go_wp2_with fail
 refine (divMod_calls w.heap.size 0 N1 0 N2 0 w2.heap.size 0 x.num x.den _ (hz2.below hbaM) hnewM.slot (by omega) (hx12.below hbaM) (hx2.below hbaM) hdn hn1 hd1 hn).mono ?_
 rintro e w3 ⟨rfl,hq3,hm3,w31,hu1,hu2⟩
 have hB3:=hu2.new (hu1.new (bthen hB2 hbaM) (Nat.le_refl _)) (by omega)
 go_wp2
 go_ret
 exact ⟨_,rfl,Nat.le_refl _,hq3,hB3⟩
end Go.Proofs.ZP
end
section
namespace Go.Proofs.ZQ
open Go.RowKit Go.Proofs.ZW.Wa Go.Proofs.ZP
theorem rr_one {a b:ByteArray} {x y:Rat} (h:RR a b x) (k:RR a b y):x=y:=Rat.ext (zdb (h.num.symm.trans k.num)) (T_inj (h.den.symm.trans k.den))
noncomputable def twoF (why:Rat→Rat→Int) (op:Rat→Rat→Rat) (a0 a1 b0 b1:ByteArray):Option (ByteArray×ByteArray×Int):=by
 classical exact if h:(∃ x,RR a0 a1 x)∧∃ y,RR b0 b1 y then some (tell (why h.1.choose h.2.choose) (op h.1.choose h.2.choose)) else some (⟨#[]⟩,⟨#[]⟩,3)
noncomputable def oneF (why:Rat→Int) (op:Rat→Rat) (a0 a1:ByteArray):Option (ByteArray×ByteArray×Int):=by
 classical exact if h:∃ x,RR a0 a1 x then some (tell (why h.choose) (op h.choose)) else some (⟨#[]⟩,⟨#[]⟩,3)
theorem twoF_yes {why:Rat→Rat→Int} {op:Rat→Rat→Rat} {a0 a1 b0 b1:ByteArray} {x y:Rat} (hx:RR a0 a1 x) (hy:RR b0 b1 y):twoF why op a0 a1 b0 b1=some (tell (why x y) (op x y)):=by
 have h:(∃ x,RR a0 a1 x)∧∃ y,RR b0 b1 y:=⟨⟨x,hx⟩,⟨y,hy⟩⟩
 unfold twoF
 rw [dif_pos h,←rr_one hx h.1.choose_spec,←rr_one hy h.2.choose_spec]
theorem twoF_no {why:Rat→Rat→Int} {op:Rat→Rat→Rat} {a0 a1 b0 b1:ByteArray} (h:¬ ((∃ x,RR a0 a1 x)∧∃ y,RR b0 b1 y)):twoF why op a0 a1 b0 b1=some (⟨#[]⟩,⟨#[]⟩,3):=by
 unfold twoF
 rw [dif_neg h]
noncomputable def rat_Add.f (a0_0 a0_1 a1_0 a1_1:ByteArray):Option (ByteArray×ByteArray×Int):=twoF (fun x y=>0) (fun x y=>x+y) a0_0 a0_1 a1_0 a1_1
noncomputable def rat_Sub.f (a0_0 a0_1 a1_0 a1_1:ByteArray):Option (ByteArray×ByteArray×Int):=twoF (fun x y=>0) (fun x y=>x-y) a0_0 a0_1 a1_0 a1_1
noncomputable def rat_Mul.f (a0_0 a0_1 a1_0 a1_1:ByteArray):Option (ByteArray×ByteArray×Int):=twoF (fun x y=>0) (fun x y=>x*y) a0_0 a0_1 a1_0 a1_1
noncomputable def rat_Neg.f (a0_0 a0_1:ByteArray):Option (ByteArray×ByteArray×Int):=oneF (fun x=>0) (fun x => -x) a0_0 a0_1
noncomputable def rat_Quo.f (a0_0 a0_1 a1_0 a1_1:ByteArray):Option (ByteArray×ByteArray×Int):=twoF (fun x y=>if y=0 then 8 else 0) (fun x y=>x/y) a0_0 a0_1 a1_0 a1_1
noncomputable def rat_Inv.f (a0_0 a0_1:ByteArray):Option (ByteArray×ByteArray×Int):=oneF (fun x=>if x=0 then 8 else 0) (fun x=>x⁻¹) a0_0 a0_1
def cmpR (x y:Rat):Int:=(x.num*y.den-y.num*x.den).sign
noncomputable def rat_Cmp.f (a0_0 a0_1 a1_0 a1_1:ByteArray):Option (Int×Int):=by
 classical exact if h:(∃ x,RR a0_0 a0_1 x)∧∃ y,RR a1_0 a1_1 y then some (cmpR h.1.choose h.2.choose,0) else some (0,3)
end Go.Proofs.ZQ
end
section
namespace Go.Proofs.ZP
open Go.RowKit Go.Proofs.ZW.Wa
theorem addA_same_false (b o b1 o1 b2 o2:Nat) (x y:Int) (w:World) (hz:Slot w b o) (hx:IntAt w b1 o1 x) (hy:IntAt w b2 o2 y) {n:Nat} (hs:Bd n x) (ht:Bd n y) (hn:n≤big) (hx0:0≤x) (hy0:0≤y) :
    Calls Tryz.prog 199 #[.pointer (some ⟨b,o,none⟩),.pointer (some ⟨b1,o1,none⟩),.pointer (some ⟨b2,o2,none⟩)] w fun e w'=>e = .returned (.pointer (some ⟨b,o,none⟩))∧IntAt w' b o (x+y)∧Upd w w' b o (o+2):=by
  obtain ⟨neg,A,c,ws,h1,h2,h3,h4⟩:=hx.out
  obtain ⟨neg',A',c',ws',k1,k2,k3,k4⟩:=hy.out
  have hl1:ws.length≤34359738368:=h4.small hs hn
  have hl2:ws'.length≤34359738368:=k4.small ht hn
  have ex:=h4.eq
  have ey:=k4.eq
  clear hs ht
  have hneg:neg=false:=by cases neg; rfl; exact absurd (h4.neg_iff.1 rfl) (by omega)
  have hneg':neg'=false:=by cases neg'; rfl; exact absurd (k4.neg_iff.1 rfl) (by omega)
  subst hneg; subst hneg'
  have hk:sg false (val ws+val ws')=x+y:=by rw [ex,ey]; unfold sg; simp<;>omega
  have HK:=Lib.hid hk
  have LL1:=Lib.hid (show ws.length≤35184372088832 by omega)
  have LL2:=Lib.hid (show ws'.length≤35184372088832 by omega)
  clear ex ey hk
  go_enter Tryz.func199,Tryz.ntmps199
  go_wp2_with fail
  go_quiet (fail)
  generalize hq:w.drewN _=w1
  have HB1:=Lib.hid (show Below w.heap.size w w1 from by subst hq; exact zan _ _)
  have g1:w1.cell? ⟨b1,o1,none⟩=some (.bool false):=by subst hq; exact h1
  have g2:w1.cell? ⟨b1,o1+1,none⟩=some (.slice A ws.length c):=by subst hq; exact h2
  have g3:w1.cell? ⟨b2,o2,none⟩=some (.bool false):=by subst hq; exact k1
  have g4:w1.cell? ⟨b2,o2+1,none⟩=some (.slice A' ws'.length c'):=by subst hq; exact k2
  clear hq h1 h2 k1 k2
  go_wp2_with fail
  go_region_with ((first
      | (go_simp; go_at_call 233; refine (zdf A c ws A' c' ws' _ (h3.below (bthen HB1.out (zad _))) (k3.below (bthen HB1.out (zad _))) h4.wd k4.wd LL1.out LL2.out).mono ?_; rintro e w2 ⟨A2,c2,zs,rfl,hw2,hz2,hv2,hzl2,hb2⟩; have HV2:=Lib.hid hv2; clear hv2 hzl2; have g1:=(hb2.cell (p:=⟨b1,o1,none⟩) (World.block_lt_of_cell? _ _ g1)).trans g1)
      | (go_simp; go_at_call 187; refine (zaC b o false A2 c2 zs _ (hz.upd (Upd.of_below (bthen (bthen HB1.out (zad _)) hb2) 0 0 0)) hw2 hz2).mono ?_; rintro e w3 ⟨rfl,hx3,hu3⟩)))
  all_goals
    have hfin:sg false (val zs)=x+y:=by rw [HV2.out]; exact HK.out
    rw [hfin] at hx3
    go_wp2
    go_ret
    exact ⟨rfl,hx3,(((Upd.of_below HB1.out _ _ _).trans (Upd.of_below (zad _) _ _ _)).trans (Upd.of_below hb2 _ _ _)).trans hu3⟩
theorem zdD (b o b1 o1 b2 o2:Nat) (x y:Int) (w:World) (hz:Slot w b o) (hx:IntAt w b1 o1 x) (hy:IntAt w b2 o2 y) {n:Nat} (hs:Bd n x) (ht:Bd n y) (hn:n≤big) (hx0:x<0) (hy0:0≤y) (hxy:x+y≤0) :
    Calls Tryz.prog 199 #[.pointer (some ⟨b,o,none⟩),.pointer (some ⟨b1,o1,none⟩),.pointer (some ⟨b2,o2,none⟩)] w fun e w'=>e = .returned (.pointer (some ⟨b,o,none⟩))∧IntAt w' b o (x+y)∧Upd w w' b o (o+2):=by
  obtain ⟨neg,A,c,ws,h1,h2,h3,h4⟩:=hx.out
  obtain ⟨neg',A',c',ws',k1,k2,k3,k4⟩:=hy.out
  have hl1:ws.length≤34359738368:=h4.small hs hn
  have hl2:ws'.length≤34359738368:=k4.small ht hn
  have ex:=h4.eq
  have ey:=k4.eq
  clear hs ht
  have hneg:neg=true:=h4.neg_iff.2 hx0
  have hneg':neg'=false:=by cases neg'; rfl; exact absurd (k4.neg_iff.1 rfl) (by omega)
  subst hneg; subst hneg'
  have hva:=h4.val_eq
  have hvb:=k4.val_eq
  have hk:sg true (val ws-val ws')=x+y:=by rw [ex,ey]; unfold sg; simp<;>omega
  have hle:val ws'≤val ws:=by omega
  have HK:=Lib.hid hk
  have HLE:=Lib.hid hle
  have HLL:=Lib.hid (show ws'.length≤ws.length from zaU h4.wd k4.wd k4.top hle)
  have LL1:=Lib.hid (show ws.length≤35184372088832 by omega)
  have LL2:=Lib.hid (show ws'.length≤35184372088832 by omega)
  clear ex ey hk hle hva hvb
  go_enter Tryz.func199,Tryz.ntmps199
  go_wp2_with fail
  go_quiet (fail)
  generalize hq:w.drewN _=w1
  have HB1:=Lib.hid (show Below w.heap.size w w1 from by subst hq; exact zan _ _)
  have g1:w1.cell? ⟨b1,o1,none⟩=some (.bool true):=by subst hq; exact h1
  have g2:w1.cell? ⟨b1,o1+1,none⟩=some (.slice A ws.length c):=by subst hq; exact h2
  have g3:w1.cell? ⟨b2,o2,none⟩=some (.bool false):=by subst hq; exact k1
  have g4:w1.cell? ⟨b2,o2+1,none⟩=some (.slice A' ws'.length c'):=by subst hq; exact k2
  clear hq h1 h2 k1 k2
  go_wp2_with fail
  go_region_held3 (fun w'=>w'.cell? ⟨b1,o1,none⟩=some (.bool true)∧w'.cell? ⟨b1,o1+1,none⟩=some (.slice A ws.length c)∧w'.cell? ⟨b2,o2,none⟩=some (.bool false)∧w'.cell? ⟨b2,o2+1,none⟩=some (.slice A' ws'.length c'))
    (first|go_keep|exact ⟨g1,g2,g3,g4⟩)
    ((first
      | (go_simp; go_at_call 230; refine (zaV A c ws A' c' ws' _ (h3.below (bthen HB1.out (zad _))) (k3.below (bthen HB1.out (zad _))) h4.wd k4.wd h4.top k4.top).mono ?_; rintro e w2 ⟨r,rfl,hr,hrb,⟨⟨nd,rfl⟩⟩⟩)))
  rename_i hHeld
  generalize hq:w1.drewN _=w2 at hHeld ⊢
  have HB2:=Lib.hid (show Below w1.heap.size w1 w2 from by subst hq; exact zan _ _)
  clear hq g1 g2 g3 g4
  obtain ⟨g1,g2,g3,g4⟩:=hHeld
  have hr0:=zbc hr
  have hr1:0≤r:=by have:=HLE.out; omega
  have HB12:=Lib.hid (bthen HB1.out HB2.out)
  clear hr hr0 HB1 HB2
  have HB1:=HB12
  clear HB12
  go_wp2_with fail
  go_region_with ((first
      | (go_simp; go_at_call 234; refine (zb2 A c ws A' c' ws' _ (h3.below (bthen HB1.out (zad _))) (k3.below (bthen HB1.out (zad _))) h4.wd k4.wd LL1.out HLE.out HLL.out).mono ?_; rintro e w4 ⟨A2,c2,zs,rfl,hw2,hz2,hv2,hzl2,hb2⟩; have HV2:=Lib.hid hv2; clear hv2 hzl2; have gg:=(hb2.cell (p:=⟨b1,o1,none⟩) (World.block_lt_of_cell? _ _ g1)).trans g1)
      | (go_simp; go_at_call 187; refine (zaC b o true A2 c2 zs _ (hz.upd (Upd.of_below (bthen (bthen HB1.out (zad _)) hb2) 0 0 0)) hw2 hz2).mono ?_; rintro e w3 ⟨rfl,hx3,hu3⟩)))
  all_goals
    have hfin:sg true (val zs)=x+y:=by rw [HV2.out]; exact HK.out
    rw [hfin] at hx3
    go_wp2
    go_ret
    exact ⟨rfl,hx3,(((Upd.of_below HB1.out _ _ _).trans (Upd.of_below (zad _) _ _ _)).trans (Upd.of_below hb2 _ _ _)).trans hu3⟩
def halfS (x:Rat):Int:=((x-(x.floor:Rat)).num*(Rat.divInt 1 2).den-(Rat.divInt 1 2).num*(x-(x.floor:Rat)).den).sign
def evenR (x:Rat):Int:=if 0<halfS x∨(halfS x=0∧x.floor.natAbs%2=1) then x.floor+1 else x.floor
theorem zdA {x:Rat} {n:Nat} (h:Bdr n x):Bd n x.floor:=by
 rw [Rat.floor_def]
 exact h.1.le (Int.natAbs_ediv_le_natAbs _ _)
theorem Bdr.half:Bdr 2 (Rat.divInt 1 2):=by
 refine Bdr.divInt (by decide) ?_ ?_<;>(unfold Bd; decide)
theorem zdC (b N:Nat) (x:Int) (w:World) (hx:IntAt w b 0 x) (hy:IntAt w N 0 1) {n:Nat} (hs:Bd n x) (hn0:0<n) (hn:n≤big) :
  Calls Tryz.prog 199 #[.pointer (some ⟨b,0,none⟩),.pointer (some ⟨b,0,none⟩),.pointer (some ⟨N,0,none⟩)] w fun e w'=>e = .returned (.pointer (some ⟨b,0,none⟩))∧IntAt w' b 0 (x+1)∧Upd w w' b 0 2:=by
 have h1:Bd n (1:Int):=by
  unfold Bd
  have:2^1≤2^n:=Nat.pow_le_pow_right (by decide) hn0
  have:(1:Int).natAbs=1:=rfl
  omega
 by_cases h:0≤x
 ·exact addA_same_false b 0 b 0 N 0 x 1 w hx.slot hx hy hs h1 hn h (by decide)
 ·exact zdD b 0 b 0 N 0 x 1 w hx.slot hx hy hs h1 hn (by omega) (by decide) (by omega)
theorem even_calls (g:Nat) (x:Rat) (w:World) (hx:RatAt w g x) {n:Nat} (hs:Bdr n x) (hn0:0<n) (hn:4*n+10≤big) :
  Calls Tryz.prog 186 #[.pointer (some ⟨g,0,none⟩)] w fun e w'=>∃ D,e = .returned (.pointer (some ⟨D,0,none⟩))∧w.heap.size≤D∧IntAt w' D 0 (evenR x)∧Below w.heap.size w w':=by
 have hu112:=Tryz.underlying112
 have hnb:n≤big:=by omega
 have hbf:=zdA hs
 have hlx:=hx.lt
 have HE:=Lib.hid (show evenR x=if 0<halfS x∨(halfS x=0∧x.floor.natAbs%2=1) then x.floor+1 else x.floor from rfl)
 have HH:=Lib.hid (show halfS x=((x-(x.floor:Rat)).num*(Rat.divInt 1 2).den-(Rat.divInt 1 2).num*(x-(x.floor:Rat)).den).sign from rfl)
 go_enter Tryz.func186,Tryz.ntmps186
 go_wp2_with fail
 refine (floor_calls g x _ hx hs hnb).mono ?_
 rintro e w1 ⟨D,rfl,hD,hq1,hb1⟩
 have hx1:=hx.below hb1
 have hlq:=hq1.lt
 have hs1:=hb1.size
 have hbA:=bthen (zaa (Below.refl w1.heap.size w1) (.cells #[.bool false,.slice none 0 0,.bool false,.slice none 0 0] 112)) (zaa (Below.refl _ _) (.cells #[.bool false,.slice none 0 0,.bool false,.slice none 0 0] 112))
 have hr2:RatAt ((w1.alloc (.cells #[.bool false,.slice none 0 0,.bool false,.slice none 0 0] 112)).alloc (.cells #[.bool false,.slice none 0 0,.bool false,.slice none 0 0] 112)) (w1.heap.size+1) 0:=by
  have h:=RatAt.new (w1.alloc (.cells #[.bool false,.slice none 0 0,.bool false,.slice none 0 0] 112)) 112 (by decide)
  rwa [World.size_alloc] at h
 have hr1:=(RatAt.new w1 112 (by decide)).slot.below (zaa (Below.refl (w1.alloc (.cells #[.bool false,.slice none 0 0,.bool false,.slice none 0 0] 112)).heap.size (w1.alloc (.cells #[.bool false,.slice none 0 0,.bool false,.slice none 0 0] 112))) (.cells #[.bool false,.slice none 0 0,.bool false,.slice none 0 0] 112))
 have hqA:=hq1.below hbA
 have hxA:=hx1.below hbA
 have hBA:=bthen hb1 hbA
 clear hq1 hx1 hb1 hbA hx
 go_wp2_with fail
 refine (zaJ (w1.heap.size+1) D 0 x.floor _ hr2.slot hqA hbf hnb).mono ?_
 rintro e w2 ⟨rfl,hf2,hu2⟩
 have hq2:=hqA.upd hu2 (Or.inl (by omega))
 have hx2:=hxA.upd hu2 (by omega)
 have hr2':=hr1.upd hu2
 have hB2:=hu2.new hBA (by omega)
 clear hqA hxA hr1 hr2 hu2 hBA
 have hsub:=hs.sub (Bdr.int hbf hn0)
 have HSUB:=Lib.hid hsub
 clear hsub
 go_wp2_with fail
 refine (rsub_calls w1.heap.size g (w1.heap.size+1) x (x.floor:Rat) _ hr2' hx2 hf2 hs (Bdr.int hbf hn0) (by omega)).mono ?_
 rintro e w3 ⟨rfl,hd3,hu3⟩
 have hq3:=hq2.upd hu3 (Or.inl (by omega))
 have hB3:=hu3.new hB2 hs1
 clear hq2 hx2 hf2 hr2' hu3 hB2
 go_wp2_with fail
 refine (newRat_calls 1 2 _ (by decide) (by decide) (by decide) (by decide) (by decide)).mono ?_
 rintro e w4 ⟨N,rfl,hN,hh4,hb4⟩
 have hd4:=hd3.below hb4
 have hq4:=hq3.below hb4
 have hB4:=bthen hB3 hb4
 clear hd3 hq3 hB3 hb4
 go_wp2_with fail
 refine (rcmp_calls w1.heap.size N _ _ _ hd4 hh4 HSUB.out Bdr.half (by omega)).mono ?_
 rintro e w5 ⟨rfl,hb5⟩
 have hq5:=hq4.below hb5
 have hB5:=bthen hB4 hb5
 rw [←HH.out]
 clear hd4 hh4 hq4 hB4 hb5 HH
 by_cases h1:0<halfS x
 ·have HV:=Lib.hid (show evenR x=x.floor+1 by rw [HE.out,if_pos (Or.inl h1)])
  clear HE
  go_wp2_with fail
  refine (za6 1 _ (by decide) (by decide)).mono ?_
  rintro e w7 ⟨N7,rfl,hN7,hn7,hb7⟩
  have hq7:=hq5.below hb7
  go_wp2_with fail
  refine (zdC D N7 x.floor _ hq7 hn7 hbf hn0 hnb).mono ?_
  rintro e w8 ⟨rfl,hq8,hu8⟩
  have hB8:=hu8.new (bthen hB5 hb7) hD
  go_wp2
  go_ret
  exact ⟨_,rfl,hD,by rw [HV.out]; exact hq8,hB8⟩
 ·by_cases h2:halfS x=0
  ·rw [h2]
   by_cases h3:x.floor.natAbs%2=1
   ·have HV:=Lib.hid (show evenR x=x.floor+1 by rw [HE.out,if_pos (Or.inr ⟨h2,h3⟩)])
    clear HE h1 h2
    go_wp2_with fail
    refine (bit_calls D 0 x.floor 0 _ hq5 (by omega) hbf hnb).mono ?_
    rintro e w6 ⟨rfl,⟨nd,hw6⟩⟩
    have hb6:Below w5.heap.size w5 w6:=by subst hw6; exact zan _ _
    have hq6:=hq5.below hb6
    have hB6:=bthen hB5 hb6
    rw [show x.floor.natAbs/2^0%2=1 by rw [Nat.pow_zero,Nat.div_one]; exact h3]
    clear hw6 h3
    go_wp2_with fail
    refine (za6 1 _ (by decide) (by decide)).mono ?_
    rintro e w7 ⟨N7,rfl,hN7,hn7,hb7⟩
    have hq7:=hq6.below hb7
    go_wp2_with fail
    refine (zdC D N7 x.floor _ hq7 hn7 hbf hn0 hnb).mono ?_
    rintro e w8 ⟨rfl,hq8,hu8⟩
    have hB8:=hu8.new (bthen hB6 hb7) hD
    go_wp2
    go_ret
    exact ⟨_,rfl,hD,by rw [HV.out]; exact hq8,hB8⟩
   ·have HV:=Lib.hid (show evenR x=x.floor by rw [HE.out,if_neg (fun h=>h.elim h1 (fun h=>h3 h.2))])
    clear HE h1 h2
    go_wp2_with fail
    refine (bit_calls D 0 x.floor 0 _ hq5 (by omega) hbf hnb).mono ?_
    rintro e w6 ⟨rfl,⟨nd,hw6⟩⟩
    have hb6:Below w5.heap.size w5 w6:=by subst hw6; exact zan _ _
    have hq6:=hq5.below hb6
    have hB6:=bthen hB5 hb6
    rw [show x.floor.natAbs/2^0%2=0 by rw [Nat.pow_zero,Nat.div_one]; omega]
    clear hw6 h3
    go_wp2
    go_ret
    exact ⟨_,rfl,hD,by rw [HV.out]; exact hq6,hB6⟩
  ·have hne:(halfS x == 0)=false:=beq_eq_false_iff_ne.2 h2
   have HV:=Lib.hid (show evenR x=x.floor by rw [HE.out,if_neg (fun h=>h.elim h1 (fun h=>h2 h.1))])
   clear HE h2
   go_wp2
   go_ret
   exact ⟨_,rfl,hD,by rw [HV.out]; exact hq5,hB5⟩
theorem steps_calls (g:Nat) (x:Rat) (p:Int) (w:World) (hx:RatAt w g x) {n:Nat} (hs:Bdr n x) (hn0:0<n) (h0 : -10000≤p) (h1:p≤10000) (hn:n≤1000000) :
  Calls Tryz.prog 102 #[.pointer (some ⟨g,0,none⟩),.int .i64 p] w fun e w'=>∃ D,e = .returned (.pointer (some ⟨D,0,none⟩))∧w.heap.size≤D∧IntAt w' D 0 (evenR (x*tenR p))∧Below w.heap.size w w':=by
 have hu112:=Tryz.underlying112
 have hnew:=RatAt.new w 112 (by decide)
 have hba:=zaa (Below.refl w.heap.size w) (.cells #[.bool false,.slice none 0 0,.bool false,.slice none 0 0] 112)
 have htn:=Bdr.tenR p
 have HBM:=Lib.hid (hs.mul htn)
 have HTN:=Lib.hid htn
 have hpn:p.natAbs≤10000:=by omega
 clear htn
 go_enter Tryz.func102,Tryz.ntmps102
 go_wp2_with fail
 refine (zb6 p _ (by omega) (by omega)).mono ?_
 rintro e w1 ⟨G,rfl,hG,ht1,hb1⟩
 go_wp2_with fail
 refine (zbI w.heap.size g G x _ _ (hnew.slot.below hb1) ((hx.below hba).below hb1) ht1 hs HTN.out (by unfold big; omega)).mono ?_
 rintro e w2 ⟨rfl,hm2,hu2⟩
 have hB2:=hu2.new (bthen hba hb1) (Nat.le_refl _)
 have hs2:=hB2.size
 clear hnew hba hx ht1 hu2
 go_wp2_with fail
 refine (even_calls w.heap.size _ _ hm2 HBM.out (by omega) (by unfold big; omega)).mono ?_
 rintro e w3 ⟨D,rfl,hD,hq3,hb3⟩
 go_wp2
 go_ret
 exact ⟨_,rfl,Nat.le_trans hs2 hD,hq3,bthen hB2 hb3⟩
end Go.Proofs.ZP
end
section
namespace Go.Proofs.ZQ
open Go.RowKit Go.Proofs.ZW.Wa Go.Proofs.ZP
noncomputable def rat_Floor.f (a0_0 a0_1:ByteArray):Option (ByteArray×ByteArray×Int):=oneF (fun x=>0) (fun x=>((x.floor:Int):Rat)) a0_0 a0_1
end Go.Proofs.ZQ
end
section
namespace Go.Proofs.ZP
inductive Simp:Rat→Rat→Rat→Prop
 | whole (x y:Rat) (h:((x.floor:Int):Rat)=x):Simp x y ((x.floor:Int):Rat)
 | up (x y:Rat) (h:((x.floor:Int):Rat)≠x) (k:((x.floor:Int):Rat)+1≤y):Simp x y (((x.floor:Int):Rat)+1)
 | inner (x y s:Rat) (h:((x.floor:Int):Rat)≠x) (k:¬ ((x.floor:Int):Rat)+1≤y) (r:Simp (y-((x.floor:Int):Rat))⁻¹ (x-((x.floor:Int):Rat))⁻¹ s):Simp x y (((x.floor:Int):Rat)+s⁻¹)
theorem fl_le (x:Rat):((x.floor:Int):Rat)≤x:=Rat.floor_le x
theorem fl_lt (x:Rat):x<((x.floor:Int):Rat)+1:=by
 have:=Rat.lt_floor_add_one x
 rwa [Rat.intCast_add] at this
theorem rpos {x:Rat}:0<x↔0<x.num:=by
 rw [Rat.lt_iff]; simp
theorem zby (y:Rat) (f:Int):(y-(f:Rat)).num=y.num-f*y.den∧(y-(f:Rat)).den=y.den:=by
 have hd:=y.den_nz
 have hg:Nat.gcd (y.num-f*y.den).natAbs y.den=1:=by
  have hr:=y.reduced
  unfold Nat.Coprime at hr
  have h1:Int.gcd (y.num-f*y.den) y.den=Int.gcd y.num y.den:=by
   rw [show y.num-f*(y.den:Int)=y.num+(-f)*y.den by rw [Int.neg_mul]; rfl]
   exact Int.gcd_add_mul_right_left _ _ _
  exact h1.trans hr
 have hm:y-(f:Rat)=⟨y.num-f*y.den,y.den,hd,hg⟩:=by
  rw [Rat.sub_def',Rat.mk_eq_mkRat]
  simp
 rw [hm]
 exact ⟨rfl,rfl⟩
theorem zdr {x:Rat} (h:0<x):(x⁻¹).num=x.den∧((x⁻¹).den:Int)=x.num:=by
 have h:=rpos.1 h
 rw [Rat.num_inv,Rat.den_inv,if_neg (by omega),Int.sign_eq_one_of_pos h]
 exact ⟨by omega,by omega⟩
theorem fl_nonneg {x:Rat} (h:0<x):0≤x.floor:=Rat.le_floor_iff.2 (by rw [Rat.intCast_zero]; exact Rat.le_of_lt h)
theorem inv_le {a b:Rat} (ha:0<a) (h:a≤b):b⁻¹≤a⁻¹:=by
 have hb:0<b:=by grind
 have h1:=Rat.inv_pos.2 ha
 have h2:=Rat.inv_pos.2 hb
 have e1:=Rat.mul_inv_cancel a (by grind)
 have e2:=Rat.mul_inv_cancel b (by grind)
 have h3:=Rat.mul_le_mul_of_nonneg_right (Rat.mul_le_mul_of_nonneg_right h (Rat.le_of_lt h1)) (Rat.le_of_lt h2)
 have e3:a*a⁻¹*b⁻¹=b⁻¹:=by rw [e1,Rat.one_mul]
 have e4:b*a⁻¹*b⁻¹=a⁻¹:=by rw [Rat.mul_comm b,Rat.mul_assoc,e2,Rat.mul_one]
 rwa [e3,e4] at h3
theorem Simp.step {x y:Rat} (h0:0<x) (hxy:x≤y) (h:((x.floor:Int):Rat)≠x) (k:¬ ((x.floor:Int):Rat)+1≤y) :
  0<x-((x.floor:Int):Rat)∧0<y-((x.floor:Int):Rat)∧0<(y-((x.floor:Int):Rat))⁻¹∧(y-((x.floor:Int):Rat))⁻¹≤(x-((x.floor:Int):Rat))⁻¹:=by
 have h1:=fl_le x
 have h2:0<x-((x.floor:Int):Rat):=by grind
 have h3:0<y-((x.floor:Int):Rat):=by grind
 exact ⟨h2,h3,Rat.inv_pos.2 h3,inv_le h2 (by grind)⟩
theorem Simp.between {x y s:Rat} (h:Simp x y s) (h0:0<x) (hxy:x≤y):x≤s∧s≤y:=by
 induction h with
 | whole x y h=>rw [h]; exact ⟨Rat.le_refl,hxy⟩
 | up x y h k=>exact ⟨Rat.le_of_lt (fl_lt x),k⟩
 | inner x y s h k r ih =>
  obtain ⟨h1,h2,h3,h4⟩:=Simp.step h0 hxy h k
  obtain ⟨i1,i2⟩:=ih h3 h4
  have hs:0<s:=by grind
  have j1:=inv_le h3 i1
  have j2:=inv_le hs i2
  rw [Rat.inv_inv] at j1 j2
  constructor<;>grind
theorem zcY (f:Int) {t:Rat} (h:0<t):((f:Rat)+t⁻¹).num=f*t.num+t.den∧(((f:Rat)+t⁻¹).den:Int)=t.num:=by
 obtain ⟨h1,h2⟩:=zdr h
 have e:(f:Rat)+t⁻¹=t⁻¹-((-f:Int):Rat):=by rw [Rat.intCast_neg]; grind
 obtain ⟨h3,h4⟩:=zby t⁻¹ (-f)
 rw [←e] at h3 h4
 refine ⟨?_,by rw [h4,h2]⟩
 rw [h3,h1,h2,Int.neg_mul,Int.sub_neg,Int.add_comm]
theorem Simp.least {x y s:Rat} (h:Simp x y s) (h0:0<x) (hxy:x≤y):∀ z,x≤z→z≤y→s.num≤z.num∧s.den≤z.den:=by
 induction h with
 | whole x y h =>
  intro z hz1 hz2
  have hd:=z.den_pos
  refine ⟨?_,by rw [Rat.den_intCast]; omega⟩
  rw [Rat.num_intCast]
  have hf:=fl_nonneg h0
  have h3:((x.floor:Int):Rat)≤z:=Rat.le_trans (fl_le x) hz1
  have h4:=(Rat.le_iff _ _).1 h3
  rw [Rat.num_intCast,Rat.den_intCast] at h4
  have h5:x.floor*1≤x.floor*(z.den:Int):=Int.mul_le_mul_of_nonneg_left (by omega) hf
  omega
 | up x y h k =>
  intro z hz1 hz2
  have hd:=z.den_pos
  have e:((x.floor:Int):Rat)+1=((x.floor+1:Int):Rat):=by rw [Rat.intCast_add]; rfl
  rw [e,Rat.num_intCast,Rat.den_intCast]
  refine ⟨?_,by omega⟩
  have hf:=fl_nonneg h0
  have h3:((x.floor:Int):Rat)<z:=by have:=fl_le x; grind
  have h4:=(Rat.lt_iff _ _).1 h3
  rw [Rat.num_intCast,Rat.den_intCast] at h4
  have h5:x.floor*1≤x.floor*(z.den:Int):=Int.mul_le_mul_of_nonneg_left (by omega) hf
  omega
 | inner x y s h k r ih =>
  intro z hz1 hz2
  obtain ⟨h1,h2,h3,h4⟩:=Simp.step h0 hxy h k
  obtain ⟨i1,i2⟩:=Simp.between r h3 h4
  have hs:0<s:=by grind
  have hz:0<z-((x.floor:Int):Rat):=by grind
  have ht:0<(z-((x.floor:Int):Rat))⁻¹:=Rat.inv_pos.2 hz
  have e:z=((x.floor:Int):Rat)+((z-((x.floor:Int):Rat))⁻¹)⁻¹:=by rw [Rat.inv_inv]; grind
  obtain ⟨k1,k2⟩:=ih h3 h4 (z-((x.floor:Int):Rat))⁻¹ (inv_le hz (by grind)) (inv_le h1 (by grind))
  obtain ⟨p1,p2⟩:=zcY x.floor hs
  obtain ⟨q1,q2⟩:=zcY x.floor ht
  rw [←e] at q1 q2
  have hf:=fl_nonneg h0
  have h5:x.floor*s.num≤x.floor*((z-((x.floor:Int):Rat))⁻¹).num:=Int.mul_le_mul_of_nonneg_left k1 hf
  constructor
  ·rw [p1,q1]; omega
  ·omega
theorem Simp.parts {x y:Rat} (h0:0<x) (hxy:x≤y) (h:((x.floor:Int):Rat)≠x) (k:¬ ((x.floor:Int):Rat)+1≤y) :
  ((y-((x.floor:Int):Rat))⁻¹).num=y.den∧(((y-((x.floor:Int):Rat))⁻¹).den:Int)=y.num-x.floor*y.den ∧
  ((x-((x.floor:Int):Rat))⁻¹).num=x.den∧(((x-((x.floor:Int):Rat))⁻¹).den:Int)=x.num-x.floor*x.den ∧
  0<y.num-x.floor*y.den∧y.num-x.floor*y.den<y.den∧0<x.num-x.floor*x.den∧x.num-x.floor*x.den<x.den:=by
 obtain ⟨h1,h2,h3,h4⟩:=Simp.step h0 hxy h k
 obtain ⟨a1,a2⟩:=zdr h2
 obtain ⟨b1,b2⟩:=zdr h1
 obtain ⟨c1,c2⟩:=zby y x.floor
 obtain ⟨d1,d2⟩:=zby x x.floor
 rw [c1] at a2
 rw [c2] at a1
 rw [d1] at b2
 rw [d2] at b1
 have p1:=rpos.1 h2
 have p2:=rpos.1 h1
 rw [c1] at p1
 rw [d1] at p2
 have q1:y-((x.floor:Int):Rat)<1:=by grind
 have q2:x-((x.floor:Int):Rat)<1:=by have:=fl_lt x; grind
 rw [Rat.lt_iff,c1,c2] at q1
 rw [Rat.lt_iff,d1,d2] at q2
 simp at q1 q2
 exact ⟨a1,a2,b1,b2,p1,q1,p2,q2⟩
theorem Simp.exists:∀ (n:Nat) (x y:Rat),x.den+y.den≤n→0<x→x≤y→∃ s,Simp x y s:=by
 intro n
 induction n with
 | zero=>intro x y hn h0 hxy; have:=x.den_pos; omega
 | succ n ih =>
  intro x y hn h0 hxy
  by_cases h:((x.floor:Int):Rat)=x
  ·exact ⟨_,.whole x y h⟩
  by_cases k:((x.floor:Int):Rat)+1≤y
  ·exact ⟨_,.up x y h k⟩
  obtain ⟨h1,h2,h3,h4⟩:=Simp.step h0 hxy h k
  obtain ⟨a1,a2,b1,b2,p1,q1,p2,q2⟩:=Simp.parts h0 hxy h k
  obtain ⟨s,hs⟩:=ih _ _ (by omega) h3 h4
  exact ⟨_,.inner x y s h k hs⟩
inductive Chn:Rat→List Int→Prop
 | last (x:Rat) (h:((x.floor:Int):Rat)=x):Chn x [x.floor]
 | more (x:Rat) (l:List Int) (h:((x.floor:Int):Rat)≠x) (r:Chn (x-((x.floor:Int):Rat))⁻¹ l):Chn x (x.floor :: l)
def bck:List Int→Rat
 | []=>0
 | [a]=>(a:Rat)
 | a :: b :: l=>(a:Rat)+(bck (b :: l))⁻¹
theorem zdB (a:Int) {l:List Int} (h:l ≠ []):bck (a :: l)=(a:Rat)+(bck l)⁻¹:=by
 cases l with
 | nil=>exact absurd rfl h
 | cons b l=>rfl
theorem Chn.ne {x:Rat} {l:List Int} (h:Chn x l):l ≠ []:=by cases h<;>simp
theorem Chn.back {x:Rat} {l:List Int} (h:Chn x l):bck l=x:=by
 induction h with
 | last x h=>exact h
 | more x l h r ih =>
  rw [zdB _ r.ne,ih,Rat.inv_inv]
  grind
theorem Chn.exists:∀ (n:Nat) (x:Rat),x.den≤n→∃ l,Chn x l:=by
 intro n
 induction n with
 | zero=>intro x hn; have:=x.den_pos; omega
 | succ n ih =>
  intro x hn
  by_cases h:((x.floor:Int):Rat)=x
  ·exact ⟨_,.last x h⟩
  have h1:=fl_le x
  have h2:=fl_lt x
  have h3:0<x-((x.floor:Int):Rat):=by grind
  have hd:((x-((x.floor:Int):Rat))⁻¹).den<x.den:=by
   have hp:x-((x.floor:Int):Rat)<1:=by grind
   have hp2:=(Rat.lt_iff _ _).1 h3
   rw [Rat.lt_iff] at hp
   rw [Rat.den_inv]
   simp at hp hp2
   rw [if_neg (by omega)]
   have hden:(x-((x.floor:Int):Rat)).den∣x.den:=by
    rw [Rat.sub_def',Rat.den_mkRat]
    rw [if_neg (by have:=x.den_pos; simp; omega)]
    simp
    exact Nat.div_dvd_of_dvd (Nat.gcd_dvd_left _ _)
   have:=Nat.le_of_dvd x.den_pos hden
   omega
  obtain ⟨l,hl⟩:=ih (x-((x.floor:Int):Rat))⁻¹ (by omega)
  exact ⟨_,.more x l h hl⟩
theorem Chn.one {x:Rat} {l m:List Int} (h:Chn x l) (k:Chn x m):l=m:=by
 induction h generalizing m with
 | last x h =>
  rcases k with _|⟨_,m,h2,_⟩
  ·rfl
  ·exact absurd h h2
 | more x l h r ih =>
  rcases k with ⟨_,h2⟩|⟨_,m,h2,r2⟩
  ·exact absurd h2 h
  ·rw [ih r2]
def Ones (l:List Int):Prop:=∀ a∈l,1≤a
theorem bck_pos:∀ l:List Int,l ≠ []→Ones l→1≤bck l∧(l ≠ [1]→1<bck l):=by
 intro l
 induction l with
 | nil=>intro h; exact absurd rfl h
 | cons a l ih =>
  intro _ ho
  have ha:1≤a:=ho a (by simp)
  have ha2:(1:Rat)≤(a:Rat):=by
   have:=(Rat.intCast_le_intCast (a:=1) (b:=a)).2 ha
   simpa using this
  by_cases hl:l = []
  ·subst hl
   refine ⟨ha2,fun h => ?_⟩
   have:(1:Int)<a:=by
    rcases Int.lt_or_le 1 a with h1|h1
    ·exact h1
    ·exact absurd (by rw [show a=1 by omega]) h
   have:=(Rat.intCast_lt_intCast (a:=1) (b:=a)).2 this
   exact this
  ·obtain ⟨h1,h2⟩:=ih hl (fun b hb=>ho b (by simp [hb]))
   rw [zdB a hl]
   have h3:0<(bck l)⁻¹:=Rat.inv_pos.2 (by grind)
   constructor<;>(try intro _)<;>grind
theorem floor_of {x:Rat} {a:Int} (h:(a:Rat)≤x) (k:x<(a:Rat)+1):x.floor=a:=by
 have h1:=Rat.le_floor_iff.2 h
 have h2:x.floor<a+1:=Rat.floor_lt_iff.2 (by rw [Rat.intCast_add]; exact k)
 omega
theorem chn_of:∀ (l:List Int) (a:Int),Ones l→(∀ h:l ≠ [],l.getLast h≠1)→Chn (bck (a :: l)) (a :: l):=by
 intro l
 induction l with
 | nil =>
  intro a _ _
  have h:Chn ((a:Int):Rat) [((a:Int):Rat).floor]:=.last _ (by rw [Rat.floor_intCast])
  rw [Rat.floor_intCast] at h
  exact h
 | cons b l ih =>
  intro a ho hl
  have hb:1<bck (b :: l):=by
   refine (bck_pos (b :: l) (by simp) ho).2 (fun e => ?_)
   have:=hl (by simp)
   simp only [e] at this
   exact this rfl
  have h1:Chn (bck (b :: l)) (b :: l):=ih b (fun c hc=>ho c (by simp [hc])) (fun h=>by
   have:=hl (by simp)
   rwa [List.getLast_cons h] at this)
  have e:bck (a :: b :: l)=(a:Rat)+(bck (b :: l))⁻¹:=rfl
  have hi:0<(bck (b :: l))⁻¹:=Rat.inv_pos.2 (by grind)
  have hi2:(bck (b :: l))⁻¹<1:=by
   have hm:=Rat.mul_inv_cancel (bck (b :: l)) (by grind)
   have:=Rat.mul_lt_mul_of_pos_right hb hi
   grind
  have hf:(bck (a :: b :: l)).floor=a:=by rw [e]; exact floor_of (by grind) (by grind)
  have hr:(bck (a :: b :: l)-(((bck (a :: b :: l)).floor:Int):Rat))⁻¹=bck (b :: l):=by
   rw [hf,e]
   have:(a:Rat)+(bck (b :: l))⁻¹-(a:Rat)=(bck (b :: l))⁻¹:=by grind
   rw [this,Rat.inv_inv]
  have h2:=Chn.more (bck (a :: b :: l)) (b :: l) (by rw [hf,e]; grind) (by rw [hr]; exact h1)
  rw [hf] at h2
  exact h2
theorem bck_last1:∀ (l:List Int) (b:Int),bck (l ++ [b,1])=bck (l ++ [b+1]):=by
 intro l b
 induction l with
 | nil =>
  show (b:Rat)+(((1:Int):Rat))⁻¹=((b+1:Int):Rat)
  rw [Rat.intCast_add]
  have:(((1:Int):Rat))⁻¹=((1:Int):Rat):=by
   show (1:Rat)⁻¹=1
   have:=Rat.mul_inv_cancel (1:Rat) (by decide)
   grind
  rw [this]
 | cons a l ih =>
  show bck (a :: (l ++ [b,1]))=bck (a :: (l ++ [b+1]))
  rw [zdB a (by simp),zdB a (by simp),ih]
theorem zcD (x:Rat):(x-((x.floor:Int):Rat)).num=x.num-x.floor*x.den∧(x-((x.floor:Int):Rat)).den=x.den:=zby x x.floor
theorem Chn.parts {x:Rat} (h:((x.floor:Int):Rat)≠x):0<x-((x.floor:Int):Rat)∧((x-((x.floor:Int):Rat))⁻¹).num=x.den∧(((x-((x.floor:Int):Rat))⁻¹).den:Int)=x.num-x.floor*x.den∧0<x.num-x.floor*x.den∧x.num-x.floor*x.den<x.den:=by
 have h1:=fl_le x
 have h2:=fl_lt x
 have h3:0<x-((x.floor:Int):Rat):=by grind
 obtain ⟨a1,a2⟩:=zdr h3
 obtain ⟨c1,c2⟩:=zcD x
 rw [c2] at a1
 rw [c1] at a2
 have p1:=rpos.1 h3
 rw [c1] at p1
 have q:x-((x.floor:Int):Rat)<1:=by grind
 rw [Rat.lt_iff,c1,c2] at q
 simp at q
 exact ⟨h3,a1,a2,p1,q⟩
theorem Chn.len:∀ (n:Nat) (x:Rat) (l:List Int),Chn x l→x.den<2^n→l.length≤2*n:=by
 intro n
 induction n with
 | zero=>intro x l h hd; have:=x.den_pos; omega
 | succ n ih =>
  intro x l h hd
  rcases h with _|⟨_,l,h1,r⟩
  ·simp; omega
  ·obtain ⟨p0,p1,p2,p3,p4⟩:=Chn.parts h1
   rcases r with _|⟨_,l,h2,r⟩
   ·simp; omega
   ·obtain ⟨q0,q1,q2,q3,q4⟩:=Chn.parts h2
    rw [p1,p2] at q2 q3 q4
    have hf:1≤((x-((x.floor:Int):Rat))⁻¹).floor:=by
     refine Rat.le_floor_iff.2 ?_
     rw [Rat.le_iff,p1,p2]
     simp
     omega
    have hm:1*(x.num-x.floor*(x.den:Int))≤((x-((x.floor:Int):Rat))⁻¹).floor*(x.num-x.floor*(x.den:Int)):=Int.mul_le_mul_of_nonneg_right hf (by omega)
    generalize ((x-((x.floor:Int):Rat))⁻¹).floor*(x.num-x.floor*(x.den:Int))=m at *
    have hp:2^(n+1)=2*2^n:=by rw [Nat.pow_succ]; omega
    have:=ih _ _ r (by omega)
    simp
    omega
end Go.Proofs.ZP
end
section
namespace Go.Proofs.ZQ
open Go.RowKit Go.Proofs.ZW.Wa Go.Proofs.ZW.Wb Go.Proofs.ZW.Wc
attribute [local go_sem] zaI zaG zaP zaO zaA zaz zaH zaF
noncomputable def errW:Option Int→Value
 | none => .nilIface
 | some c => .iface 0 (.int .i64 c)
theorem zai:errW none = .nilIface:=rfl
theorem zah (c:Int):errW (some c) = .iface 0 (.int .i64 c):=rfl
theorem info3:(Tryz.prog.info? 3).map (fun i=>(i.zero,i.size,i.bytes))=some (some (.int .i64 0),1,8):=by kernel_rfl
theorem info9:(Tryz.prog.info? 9).map (fun i=>(i.zero,i.size,i.bytes))=some (some (.string ⟨#[]⟩),1,16):=by kernel_rfl
theorem info171:(Tryz.prog.info? 171).map (fun i=>(i.zero,i.size,i.bytes))=some (some (.int .u32 0),1,4):=by kernel_rfl
end Go.Proofs.ZQ
end
section
namespace Go.Proofs.ZQ
open Go.RowKit Go.Proofs.ZW.Wa Go.Proofs.ZP Go.Proofs.ZW.Wb Go.Proofs.ZW.Wc
theorem WAt.word' {w w':World} {A:Option Addr} {c:Nat} {ws:List Int} (h:WAt w A c ws) (k:∀ (k:Nat) (cs:Array Value),w.heap[k]? = some (.cells cs 171 (0,0))→w'.heap[k]? = w.heap[k]?):WAt w' A c ws where
 le:=h.le
 row:=⟨h.row.1,h.row.2.1,fun hn=>by
  obtain ⟨ad,he,hc⟩:=h.row.2.2 hn
  obtain ⟨cs,hb⟩:=h.typ ad he
  refine ⟨ad,he,fun j p hp => ?_⟩
  obtain ⟨c',h1,h2,h3⟩:=hc j p hp
  refine ⟨c',h1,h2,fun i u hu => ?_⟩
  rw [←h3 i u hu]
  exact World.cell?_of_block (w:=w) (by rw [zcO]; exact k _ _ hb)⟩
 typ:=fun ad he=>by
  obtain ⟨cs,hb⟩:=h.typ ad he
  exact ⟨cs,(k _ _ hb).trans hb⟩
theorem IntAt.same {w w':World} {b o:Nat} {x:Int} (h:IntAt w b o x) (hb:w'.heap[b]? = w.heap[b]?) (k:∀ (k:Nat) (cs:Array Value),w.heap[k]? = some (.cells cs 171 (0,0))→w'.heap[k]? = w.heap[k]?):IntAt w' b o x:=by
 refine ⟨?_,?_⟩
 ·obtain ⟨cs,t,h1,h2⟩:=h.slot
  exact ⟨cs,t,hb.trans h1,h2⟩
 ·obtain ⟨neg,A,c,ws,h1,h2,h3,h4⟩:=h.out
  exact ⟨neg,A,c,ws,(World.cell?_of_block (a:=⟨b,o,none⟩) hb).trans h1,(World.cell?_of_block (a:=⟨b,o+1,none⟩) hb).trans h2,WAt.word' h3 k,h4⟩
theorem RatAt.same {w w':World} {g:Nat} {x:Rat} (h:RatAt w g x) (hb:w'.heap[g]? = w.heap[g]?) (k:∀ (k:Nat) (cs:Array Value),w.heap[k]? = some (.cells cs 171 (0,0))→w'.heap[k]? = w.heap[k]?):RatAt w' g x:=by
 obtain ⟨d,h1,h2⟩:=h.den
 exact ⟨IntAt.same h.num hb k,d,IntAt.same h1 hb k,h2⟩
abbrev RowT (w:World) (base:Nat) (v:Value) (ts:List ByteArray):Prop:=Kd.R Kd.string 9 w base (fun _=>True) v ts
theorem row_words {w w1:World} {base:Nat} {v:Value} {ts:List ByteArray} (h:RowT w base v ts) (hg:w.grownBy w1 v.ownBlock):∀ (k:Nat) (cs:Array Value),w.heap[k]? = some (.cells cs 171 (0,0))→w1.heap[k]? = w.heap[k]?:=fun k cs hk=>by
 refine hg.block k (zas hk) (fun e => ?_)
 obtain ⟨cells,hc⟩:=Kd.R_typed h k e.symm
 rw [hk] at hc
 injection hc with hc
 injection hc with _ hc
 exact absurd hc (by decide)
theorem rat_grown {w w1:World} {g base:Nat} {x:Rat} {v:Value} {ts:List ByteArray} (hx:RatAt w g x) (h:RowT w base v ts) (hg:w.grownBy w1 v.ownBlock) (hne:some g≠v.ownBlock):RatAt w1 g x:=
 RatAt.same hx (hg.block g hx.lt hne) (row_words h hg)
theorem int_grown {w w1:World} {b o base:Nat} {x:Int} {v:Value} {ts:List ByteArray} (hx:IntAt w b o x) (h:RowT w base v ts) (hg:w.grownBy w1 v.ownBlock) (hne:some b≠v.ownBlock):IntAt w1 b o x:=
 IntAt.same hx (hg.block b hx.lt hne) (row_words h hg)
theorem row_upd {w w':World} {g lo hi base:Nat} {v:Value} {ts:List ByteArray} (h:RowT w base v ts) (hu:Upd w w' g lo hi) (hne:some g≠v.ownBlock):RowT w' base v ts:=
 Kd.R_mono (Kd.R_step (Kd.R_tight rfl h) (fun k hk hlt=>hu.other k hlt (fun e=>hne (by rw [←e]; exact hk)))) (fun _ _=>trivial)
theorem zcH {w w':World} {base:Nat} {v:Value} {ts:List ByteArray} (h:RowT w base v ts) (hb:Below w.heap.size w w'):RowT w' base v ts:=Kd.R_below h hb
theorem row_ne {w:World} {base g:Nat} {v:Value} {ts:List ByteArray} (h:RowT w base v ts) (hg:w.heap.size≤g):some g≠v.ownBlock:=fun e=>by
 have:=Kd.R_lt h g e.symm
 omega
theorem ne_after {W:World} {g:Nat} {v v1:Value} (hne:some g≠v.ownBlock) (hl:g<W.heap.size) (hat:v1.ownBlock=v.ownBlock∨∃ b,v1.ownBlock=some b∧W.heap.size≤b):some g≠v1.ownBlock:=by
 rcases hat with h|⟨b,h,hb⟩
 ·rw [h]; exact hne
 ·rw [h]; intro e; injection e with e; omega
def slen:Value→Nat
 | .slice _ n _=>n
 | _=>0
theorem row_slen {w:World} {base:Nat} {v:Value} {ts:List ByteArray} (h:RowT w base v ts):slen v=ts.length:=by
 obtain ⟨A,c,rfl⟩:=Kd.R_slice h
 rfl
end Go.Proofs.ZQ
end
