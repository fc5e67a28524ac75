/- Texts under the proof, joined by a program (prune.py): HRatRead2, HRatTold, QRatA, QRatNew, P96, SRef, HText. -/
import Derived.Test.YtglaeambknhjlaaGreatDoorCShowReads08
import Derived.Test.YtglaeambknhjlaaGreatDoorCShowReads02
import Derived.Test.YtglaeambknhjlaaGreatDoorCShowReads07
set_option linter.unusedVariables false
set_option linter.unusedSimpArgs false
set_option exponentiation.threshold 20001
set_option maxHeartbeats 8000000
set_option maxRecDepth 100000
section
namespace Go.Proofs.ZP
open Go.RowKit Go.Proofs.ZW.Wa
structure RR (a b:ByteArray) (x:Rat):Prop where
 num:a=wtext x.num
 den:b=T x.den
 ln:x.num.natAbs<10^600
 ld:x.den<10^600
theorem natural_any (s:ByteArray) (w:World):Calls Tryz.prog 107 #[.string s] w fun e w'=>∃ v,e = .returned (.pointer v)∧Below w.heap.size w w':=by
 cases hr:rightB s
 ·exact (zcT s w hr).mono fun e w' ⟨he,hb⟩=>⟨_,he,hb⟩
 ·obtain ⟨n,rfl,hn⟩:=right_iff.1 hr
  exact (zbO n w hn).mono fun e w' ⟨D,he,_,_,hb⟩=>⟨_,he,hb⟩
theorem bd600 {n:Nat} (h:n<10^600):Bd 2000 (n:Int):=by
 unfold Bd
 rw [Int.natAbs_natCast]
 exact Nat.lt_of_lt_of_le h ten600
theorem bd600' {x:Int} (h:x.natAbs<10^600):Bd 2000 x:=by
 unfold Bd
 exact Nat.lt_of_lt_of_le h ten600
theorem RR.bd {a b:ByteArray} {x:Rat} (h:RR a b x):Bdr 2000 x:=⟨bd600' h.ln,bd600 h.ld⟩
theorem read_noW (a b:ByteArray) (w:World) (h:¬ ∃ x,WR a x) :
  Calls Tryz.prog 101 #[.agg #[.string a,.string b]] w fun e w'=>e = .returned (.pointer none)∧Below w.heap.size w w':=by
 have HW:=fun W=>whole_no a W h
 have HN:=fun W=>natural_any b W
 clear h
 have c0:(w.alloc (.cells #[.string a,.string b] 23)).cell? ⟨w.heap.size,0,none⟩=some (.string a):=(zag (zaO w (.cells #[.string a,.string b] 23)) 0).trans rfl
 have c1:(w.alloc (.cells #[.string a,.string b] 23)).cell? ⟨w.heap.size,1,none⟩=some (.string b):=(zag (zaO w (.cells #[.string a,.string b] 23)) 1).trans rfl
 have hba:=zaa (Below.refl w.heap.size w) (.cells #[.string a,.string b] 23)
 go_enter Tryz.func101,Tryz.ntmps101
 go_wp2_with fail
 have hs0:=hba.size
 generalize w.alloc (.cells #[.string a,.string b] 23)=W0 at *
 generalize hBe:w.heap.size=B0 at c0 c1 ⊢
 have HBE:=Lib.hid hBe
 clear hBe
 go_region_held3 (fun w'=>w'.cell? ⟨B0,0,none⟩=some (.string a)∧w'.cell? ⟨B0,1,none⟩=some (.string b)) (refine ⟨?_,?_⟩<;>(repeat (with_reducible first|assumption|refine zb8 ?_|refine bcell hb2 ?_|refine bcell hb1 ?_)))
  ((first
   | (go_simp; go_at_call 106; refine (HW _).mono ?_; rintro e w1 ⟨rfl,hb1⟩)
   | (go_simp; go_at_call 107; refine (HN _).mono ?_; rintro e w2 ⟨v,rfl,hb2⟩)
   ))
 all_goals
  have hBW:Below w.heap.size w w2:=(by repeat (with_reducible first|exact hba|apply zar|refine bthen ?_ hb2|refine bthen ?_ hb1))
  go_wp2
  go_ret
  exact ⟨rfl,hBW⟩
theorem read_noN (x:Int) (b:ByteArray) (w:World) (hx:x.natAbs<10^600) (h:rightB b=false) :
  Calls Tryz.prog 101 #[.agg #[.string (wtext x),.string b]] w fun e w'=>e = .returned (.pointer none)∧Below w.heap.size w w':=by
 have HW:=fun W=>zdg x W hx
 have HN:=fun W=>zcT b W h
 clear h hx
 generalize wtext x=a at *
 have c0:(w.alloc (.cells #[.string a,.string b] 23)).cell? ⟨w.heap.size,0,none⟩=some (.string a):=(zag (zaO w (.cells #[.string a,.string b] 23)) 0).trans rfl
 have c1:(w.alloc (.cells #[.string a,.string b] 23)).cell? ⟨w.heap.size,1,none⟩=some (.string b):=(zag (zaO w (.cells #[.string a,.string b] 23)) 1).trans rfl
 have hba:=zaa (Below.refl w.heap.size w) (.cells #[.string a,.string b] 23)
 go_enter Tryz.func101,Tryz.ntmps101
 go_wp2_with fail
 have hs0:=hba.size
 generalize w.alloc (.cells #[.string a,.string b] 23)=W0 at *
 generalize hBe:w.heap.size=B0 at c0 c1 ⊢
 have HBE:=Lib.hid hBe
 clear hBe
 go_region_held3 (fun w'=>w'.cell? ⟨B0,0,none⟩=some (.string a)∧w'.cell? ⟨B0,1,none⟩=some (.string b)) (refine ⟨?_,?_⟩<;>(repeat (with_reducible first|assumption|refine zb8 ?_|refine bcell hb2 ?_|refine bcell hb1 ?_)))
  ((first
   | (go_simp; go_at_call 106; refine (HW _).mono ?_; rintro e w1 ⟨D,rfl,hD,hx1,hb1⟩)
   | (go_simp; go_at_call 107; refine (HN _).mono ?_; rintro e w2 ⟨rfl,hb2⟩)
   ))
 all_goals
  have hBW:Below w.heap.size w w2:=(by repeat (with_reducible first|exact hba|apply zar|refine bthen ?_ hb2|refine bthen ?_ hb1))
  clear hx1
  go_wp2
  go_ret
  exact ⟨rfl,hBW⟩
theorem read_zero (x:Int) (w:World) (hx:x.natAbs<10^600) :
  Calls Tryz.prog 101 #[.agg #[.string (wtext x),.string (T 0)]] w fun e w'=>e = .returned (.pointer none)∧Below w.heap.size w w':=by
 have HW:=fun W=>zdg x W hx
 have HN:=fun W=>zbO 0 W (Nat.pow_pos (by decide))
 clear hx
 generalize wtext x=a at *
 generalize T 0=b at *
 have c0:(w.alloc (.cells #[.string a,.string b] 23)).cell? ⟨w.heap.size,0,none⟩=some (.string a):=(zag (zaO w (.cells #[.string a,.string b] 23)) 0).trans rfl
 have c1:(w.alloc (.cells #[.string a,.string b] 23)).cell? ⟨w.heap.size,1,none⟩=some (.string b):=(zag (zaO w (.cells #[.string a,.string b] 23)) 1).trans rfl
 have hba:=zaa (Below.refl w.heap.size w) (.cells #[.string a,.string b] 23)
 go_enter Tryz.func101,Tryz.ntmps101
 go_wp2_with fail
 have hs0:=hba.size
 generalize w.alloc (.cells #[.string a,.string b] 23)=W0 at *
 generalize hBe:w.heap.size=B0 at c0 c1 ⊢
 have HBE:=Lib.hid hBe
 clear hBe
 go_region_held3 (fun w'=>w'.cell? ⟨B0,0,none⟩=some (.string a)∧w'.cell? ⟨B0,1,none⟩=some (.string b)) (refine ⟨?_,?_⟩<;>(repeat (with_reducible first|assumption|refine zb8 ?_|refine bcell hb2 ?_|refine bcell hb1 ?_)))
  ((first
   | (go_simp; go_at_call 106; refine (HW _).mono ?_; rintro e w1 ⟨D,rfl,hD,hx1,hb1⟩)
   | (go_simp; go_at_call 107; refine (HN _).mono ?_; rintro e w2 ⟨E,rfl,hE,hy2,hb2⟩)
   ))
 all_goals
  have hBW:Below w.heap.size w w2:=(by repeat (with_reducible first|exact hba|apply zar|refine bthen ?_ hb2|refine bthen ?_ hb1))
  clear hx1
  go_wp2_with fail
  refine (zaV E 0 _ _ hy2).mono ?_
  rintro e w3 ⟨rfl,rfl⟩
  go_wp2
  go_ret
  exact ⟨rfl,hBW⟩
theorem read_gcd (x:Int) (n:Nat) (w:World) (hx:x.natAbs<10^600) (hn:n<10^600) (hn0:0<n) (hg:Int.gcd x n≠1) :
  Calls Tryz.prog 101 #[.agg #[.string (wtext x),.string (T n)]] w fun e w'=>e = .returned (.pointer none)∧Below w.heap.size w w':=by
 have HW:=fun W=>zdg x W hx
 have HN:=fun W=>zbO n W hn
 have HX:=Lib.hid (And.intro (bd600' hx) (bd600 hn))
 have hne:(((n:Nat):Int).sign == 0)=false:=beq_eq_false_iff_ne.2 (fun h=>by have:=Int.sign_eq_zero_iff_zero.1 h; omega)
 have hsg:((((Int.gcd x n:Nat):Int)-1).sign == 0)=false:=beq_eq_false_iff_ne.2 (fun h=>hg (by have:=Int.sign_eq_zero_iff_zero.1 h; omega))
 have HGG:=Lib.hid hg
 clear hx hn hg
 have hu105:=Tryz.underlying105
 generalize wtext x=a at *
 generalize T n=b at *
 have c0:(w.alloc (.cells #[.string a,.string b] 23)).cell? ⟨w.heap.size,0,none⟩=some (.string a):=(zag (zaO w (.cells #[.string a,.string b] 23)) 0).trans rfl
 have c1:(w.alloc (.cells #[.string a,.string b] 23)).cell? ⟨w.heap.size,1,none⟩=some (.string b):=(zag (zaO w (.cells #[.string a,.string b] 23)) 1).trans rfl
 have hba:=zaa (Below.refl w.heap.size w) (.cells #[.string a,.string b] 23)
 go_enter Tryz.func101,Tryz.ntmps101
 go_wp2_with fail
 have hs0:=hba.size
 generalize w.alloc (.cells #[.string a,.string b] 23)=W0 at *
 generalize hBe:w.heap.size=B0 at c0 c1 ⊢
 have HBE:=Lib.hid hBe
 clear hBe
 go_region_held3 (fun w'=>w'.cell? ⟨B0,0,none⟩=some (.string a)∧w'.cell? ⟨B0,1,none⟩=some (.string b)) (refine ⟨?_,?_⟩<;>(repeat (with_reducible first|assumption|refine zb8 ?_|refine bcell hb2 ?_|refine bcell hb1 ?_)))
  ((first
   | (go_simp; go_at_call 106; refine (HW _).mono ?_; rintro e w1 ⟨D,rfl,hD,hx1,hb1⟩; have hlD:=hx1.lt; (try simp only [World.size_drew] at hD))
   | (go_simp; go_at_call 107; refine (HN _).mono ?_; rintro e w2 ⟨E,rfl,hE,hy2,hb2⟩; (try simp only [World.size_drew] at hE))
   ))
 all_goals
  have hBW:Below w.heap.size w w2:=(by repeat (with_reducible first|exact hba|apply zar|refine bthen ?_ hb2|refine bthen ?_ hb1))
  have hx2:IntAt w2 D 0 x:=(by repeat (with_reducible first|exact hx1|refine IntAt.below ?_ (zad _)|refine IntAt.below ?_ hb2))
  have hlD2:=hx2.lt
  have hlE:=hy2.lt
  clear hx1
  go_wp2_with fail
  refine (zaV E 0 _ _ hy2).mono ?_
  rintro e w3 ⟨rfl,rfl⟩
  have hnewG:=(IntAt.new w2 105 (by decide)).slot
  go_wp2_with fail
  have hn1:=slot1 w2
  have hba1:=bthen (zaa (Below.refl w2.heap.size w2) (.cells #[.bool false,.slice none 0 0] 105)) (zaa (Below.refl _ _) (.cells #[.bool false,.slice none 0 0] 105))
  have hx3:=hx2.below hba1
  refine (zdI (w2.heap.size+1) 0 D 0 x _ hn1 hx3 HX.out.1 (by unfold big; omega)).mono ?_
  rintro e w3 ⟨rfl,ha3,hu3⟩
  have hy3:IntAt w3 E 0 n:=(hy2.below hba1).upd hu3 (Or.inl (by omega))
  have hx4:=hx3.upd hu3 (Or.inl (by omega))
  have hG3:Slot w3 w2.heap.size 0:=(hnewG.below (zaa (Below.refl _ _) (.cells #[.bool false,.slice none 0 0] 105))).upd hu3
  have hB3:Below w2.heap.size w2 w3:=hu3.new hba1 (by omega)
  clear hx2 hx3 hy2 hn1 hnewG hba1 hu3
  go_wp2_with fail
  refine (gcd_calls w2.heap.size 0 (w2.heap.size+1) 0 E 0 _ _ (x.natAbs:Int) (n:Int) _ hG3 ha3 hy3 (by omega) (by omega) HX.out.1.abs HX.out.2 (by unfold big; omega)).mono ?_
  rintro e w4 ⟨rfl,hg4,hu4⟩
  have hg4':IntAt w4 w2.heap.size 0 ((Int.gcd x n:Nat):Int):=hg4
  have hx5:=hx4.upd hu4 (Or.inl (by omega))
  have hy5:=hy3.upd hu4 (Or.inl (by omega))
  have hB4:=hu4.new hB3 (Nat.le_refl _)
  clear hg4 hx4 hy3 hG3 ha3 hu4 hB3
  go_wp2_with fail
  refine (zaR 1 _ (by decide) (by decide)).mono ?_
  rintro e w5 ⟨N1,rfl,hN1,hn5,hb5⟩
  have hg5:=hg4'.below hb5
  go_wp2_with fail
  refine (zdC w2.heap.size 0 N1 0 _ 1 _ hg5 hn5).mono ?_
  rintro e w6 ⟨rfl,hb6⟩
  have hx6:=(hx5.below hb5).below hb6
  have hy6:=(hy5.below hb5).below hb6
  have hB6:=bthen hBW (bthen hB4 (bthen hb5 hb6))
  clear hx5 hy5 hg4' hg5 hn5
  go_wp2
  go_ret
  exact ⟨rfl,hB6⟩
theorem read_one (x:Int) (n:Nat) (w:World) (hx:x.natAbs<10^600) (hn:n<10^600) (hn0:0<n) (hg:Int.gcd x n=1) :
  Calls Tryz.prog 101 #[.agg #[.string (wtext x),.string (T n)]] w fun e w'=>∃ g,e = .returned (.pointer (some ⟨g,0,none⟩))∧w.heap.size≤g∧RatAt w' g (Rat.divInt x n)∧Below w.heap.size w w':=by
 have HW:=fun W=>zdg x W hx
 have HN:=fun W=>zbO n W hn
 have HX:=Lib.hid (And.intro (bd600' hx) (bd600 hn))
 have hne:(((n:Nat):Int).sign == 0)=false:=beq_eq_false_iff_ne.2 (fun h=>by have:=Int.sign_eq_zero_iff_zero.1 h; omega)
 have hsg:((((Int.gcd x n:Nat):Int)-1).sign == 0)=true:=by rw [hg]; rfl
 have HGG:=Lib.hid hg
 clear hx hn hg
 have hu105:=Tryz.underlying105
 generalize wtext x=a at *
 generalize T n=b at *
 have c0:(w.alloc (.cells #[.string a,.string b] 23)).cell? ⟨w.heap.size,0,none⟩=some (.string a):=(zag (zaO w (.cells #[.string a,.string b] 23)) 0).trans rfl
 have c1:(w.alloc (.cells #[.string a,.string b] 23)).cell? ⟨w.heap.size,1,none⟩=some (.string b):=(zag (zaO w (.cells #[.string a,.string b] 23)) 1).trans rfl
 have hba:=zaa (Below.refl w.heap.size w) (.cells #[.string a,.string b] 23)
 go_enter Tryz.func101,Tryz.ntmps101
 go_wp2_with fail
 have hs0:=hba.size
 generalize w.alloc (.cells #[.string a,.string b] 23)=W0 at *
 generalize hBe:w.heap.size=B0 at c0 c1 ⊢
 have HBE:=Lib.hid hBe
 clear hBe
 go_region_held3 (fun w'=>w'.cell? ⟨B0,0,none⟩=some (.string a)∧w'.cell? ⟨B0,1,none⟩=some (.string b)) (refine ⟨?_,?_⟩<;>(repeat (with_reducible first|assumption|refine zb8 ?_|refine bcell hb2 ?_|refine bcell hb1 ?_)))
  ((first
   | (go_simp; go_at_call 106; refine (HW _).mono ?_; rintro e w1 ⟨D,rfl,hD,hx1,hb1⟩; have hlD:=hx1.lt; (try simp only [World.size_drew] at hD))
   | (go_simp; go_at_call 107; refine (HN _).mono ?_; rintro e w2 ⟨E,rfl,hE,hy2,hb2⟩; (try simp only [World.size_drew] at hE))
   ))
 all_goals
  have hBW:Below w.heap.size w w2:=(by repeat (with_reducible first|exact hba|apply zar|refine bthen ?_ hb2|refine bthen ?_ hb1))
  have hx2:IntAt w2 D 0 x:=(by repeat (with_reducible first|exact hx1|refine IntAt.below ?_ (zad _)|refine IntAt.below ?_ hb2))
  have hlD2:=hx2.lt
  have hlE:=hy2.lt
  clear hx1
  go_wp2_with fail
  refine (zaV E 0 _ _ hy2).mono ?_
  rintro e w3 ⟨rfl,rfl⟩
  have hnewG:=(IntAt.new w2 105 (by decide)).slot
  go_wp2_with fail
  have hn1:=slot1 w2
  have hba1:=bthen (zaa (Below.refl w2.heap.size w2) (.cells #[.bool false,.slice none 0 0] 105)) (zaa (Below.refl _ _) (.cells #[.bool false,.slice none 0 0] 105))
  have hx3:=hx2.below hba1
  refine (zdI (w2.heap.size+1) 0 D 0 x _ hn1 hx3 HX.out.1 (by unfold big; omega)).mono ?_
  rintro e w3 ⟨rfl,ha3,hu3⟩
  have hy3:IntAt w3 E 0 n:=(hy2.below hba1).upd hu3 (Or.inl (by omega))
  have hx4:=hx3.upd hu3 (Or.inl (by omega))
  have hG3:Slot w3 w2.heap.size 0:=(hnewG.below (zaa (Below.refl _ _) (.cells #[.bool false,.slice none 0 0] 105))).upd hu3
  have hB3:Below w2.heap.size w2 w3:=hu3.new hba1 (by omega)
  clear hx2 hx3 hy2 hn1 hnewG hba1 hu3
  go_wp2_with fail
  refine (gcd_calls w2.heap.size 0 (w2.heap.size+1) 0 E 0 _ _ (x.natAbs:Int) (n:Int) _ hG3 ha3 hy3 (by omega) (by omega) HX.out.1.abs HX.out.2 (by unfold big; omega)).mono ?_
  rintro e w4 ⟨rfl,hg4,hu4⟩
  have hg4':IntAt w4 w2.heap.size 0 ((Int.gcd x n:Nat):Int):=hg4
  have hx5:=hx4.upd hu4 (Or.inl (by omega))
  have hy5:=hy3.upd hu4 (Or.inl (by omega))
  have hB4:=hu4.new hB3 (Nat.le_refl _)
  clear hg4 hx4 hy3 hG3 ha3 hu4 hB3
  go_wp2_with fail
  refine (zaR 1 _ (by decide) (by decide)).mono ?_
  rintro e w5 ⟨N1,rfl,hN1,hn5,hb5⟩
  have hg5:=hg4'.below hb5
  go_wp2_with fail
  refine (zdC w2.heap.size 0 N1 0 _ 1 _ hg5 hn5).mono ?_
  rintro e w6 ⟨rfl,hb6⟩
  have hx6:=(hx5.below hb5).below hb6
  have hy6:=(hy5.below hb5).below hb6
  have hB6:=bthen hBW (bthen hB4 (bthen hb5 hb6))
  clear hx5 hy5 hg4' hg5 hn5
  have hnewR:=RatAt.new w6 112 (by decide)
  have hbaR:=zaa (Below.refl w6.heap.size w6) (.cells #[.bool false,.slice none 0 0,.bool false,.slice none 0 0] 112)
  have hu112:=Tryz.underlying112
  have hs6:=hB6.size
  go_wp2_with fail
  refine (zbe w6.heap.size D 0 E 0 x (n:Int) _ hnewR.slot (hx6.below hbaR) (hy6.below hbaR) (by omega) HX.out.1 HX.out.2 (by unfold big; omega)).mono ?_
  rintro e w7 ⟨rfl,hz7,hu7⟩
  go_wp2
  go_ret
  exact ⟨_,rfl,hs6,hz7,hu7.new (bthen hB6 hbaR) hs6⟩
theorem read_yes (x:Rat) (w:World) (hn:x.num.natAbs<10^600) (hd:x.den<10^600) :
  Calls Tryz.prog 101 #[.agg #[.string (wtext x.num),.string (T x.den)]] w fun e w'=>∃ g,e = .returned (.pointer (some ⟨g,0,none⟩))∧w.heap.size≤g∧RatAt w' g x∧Below w.heap.size w w':=by
 have h:=read_one x.num x.den w hn hd x.den_pos x.reduced
 rwa [zbN] at h
theorem read_no (a b:ByteArray) (w:World) (h:¬ ∃ x,RR a b x) :
  Calls Tryz.prog 101 #[.agg #[.string a,.string b]] w fun e w'=>e = .returned (.pointer none)∧Below w.heap.size w w':=by
 by_cases h1:∃ x,WR a x
 ·obtain ⟨x,rfl,hx⟩:=h1
  cases h2:rightB b
  ·exact read_noN x b w hx h2
  ·obtain ⟨n,rfl,hn⟩:=right_iff.1 h2
   rcases Nat.eq_zero_or_pos n with h0|h0
   ·subst h0; exact read_zero x w hx
   ·refine read_gcd x n w hx hn h0 (fun hg=>h ⟨⟨x,n,by omega,hg⟩,rfl,rfl,hx,hn⟩)
 ·exact read_noW a b w h1
def Sm (x:Rat):Prop:=x.num.natAbs<10^600∧x.den<10^600
noncomputable instance (x:Rat):Decidable (Sm x):=Classical.propDecidable _
noncomputable def toldR (x:Rat):ByteArray×ByteArray×Int:=if Sm x then (wtext x.num,T x.den,0) else (⟨#[]⟩,⟨#[]⟩,7)
theorem trim_wtext (x:Int):Lib.trimPrefix (wtext x).data.toList [45]=(T x.natAbs).data.toList:=by
 by_cases h:x<0
 ·rw [zaT h]; simp [Lib.trimPrefix,Lib.hasPrefix]
 ·rw [zaK (by omega)]
  rcases cut_minus (T x.natAbs) with ⟨t,ht,_⟩|⟨_,h1,_⟩
  ·exact absurd ht (zcN _ _)
  ·exact h1
theorem zcP (g:Nat) (x:Rat) (w:World) (hx:RatAt w g x) {n:Nat} (hs:Bdr n x) (hn:n≤big) :
  Calls Tryz.prog 108 #[.pointer (some ⟨g,0,none⟩)] w fun e w'=>e = .returned (.tuple #[.agg #[.string (toldR x).1,.string (toldR x).2.1],.int .i64 (toldR x).2.2])∧Below w.heap.size w w':=by
 have HB:=Lib.hid hs
 have HT:=fun W=>Tryz.strings_TrimPrefix (wtext x.num) ⟨#[45]⟩ W
 simp only [trim_wtext] at HT
 rw [←zaD (rfl:(T x.num.natAbs).data.toList=_)] at HT
 have HS:=Lib.hid (show toldR x=if Sm x then (wtext x.num,T x.den,0) else (⟨#[]⟩,⟨#[]⟩,7) from rfl)
 have hd1:Bd n (x.den:Int):=hs.2
 go_enter Tryz.func108,Tryz.ntmps108
 have hba:=zaa (Below.refl w.heap.size w) (.cells #[.string ⟨#[]⟩,.string ⟨#[]⟩] 23)
 have hbk:=zaO w (.cells #[.string ⟨#[]⟩,.string ⟨#[]⟩] 23)
 go_wp2_with fail
 generalize w.alloc (.cells #[.string ⟨#[]⟩,.string ⟨#[]⟩] 23)=W0 at *
 generalize hBe:w.heap.size=B0 at hbk ⊢
 have HBE:=Lib.hid hBe
 clear hBe
 refine (num_new g x _ (hx.below hba) hs hn).mono ?_
 rintro e w1 ⟨D1,rfl,hD1,hx1,hb1⟩
 go_wp2_with fail
 refine (zbT D1 0 x.num _ hx1 hs.1 hn).mono ?_
 rintro e w2 ⟨rfl,hb2⟩
 have hB2:=bthen hba (bthen hb1 hb2)
 have hk2:=bthen hb1 hb2
 clear hx1
 go_wp2_with fail
 refine (zbp g x _ (hx.below hB2) hs hn).mono ?_
 rintro e w3 ⟨D3,rfl,hD3,hx3,hb3⟩
 go_wp2_with fail
 refine (zbT D3 0 x.den _ hx3 hd1 hn).mono ?_
 rintro e w4 ⟨rfl,hb4⟩
 have hB4:=bthen hB2 (bthen hb3 hb4)
 have hk4:=bthen hk2 (bthen hb3 hb4)
 have hbk4:=(hk4.block _ (zaq hbk)).trans hbk
 rw [zaK (show (0:Int)≤(x.den:Int) by omega),Int.natAbs_natCast]
 clear hx3 hx
 go_wp2_with fail
 have hba5:=zaa (Below.refl w4.heap.size w4) (.cells #[.string (wtext x.num),.string (T x.den)] 23)
 have hbk5:=zaO w4 (.cells #[.string (wtext x.num),.string (T x.den)] 23)
 have hb5k:=(hba5.block _ (zaq hbk4)).trans hbk4
 have hB5:=bthen hB4 hba5
 have hne:B0≠w4.heap.size:=by have:=zaq hbk4; omega
 generalize w4.alloc (.cells #[.string (wtext x.num),.string (T x.den)] 23)=w5 at *
 generalize w4.heap.size=R at *
 have cB0:=(zag hb5k 0).trans (show _=some (Value.string ⟨#[]⟩) from rfl)
 have cB1:=(zag hb5k 1).trans (show _=some (Value.string ⟨#[]⟩) from rfl)
 have fB0:=zae hb5k 0
 have fB1:=zae hb5k 1
 have cR0:=(zag hbk5 0).trans (show _=some (Value.string (wtext x.num)) from rfl)
 have cR1:=(zag hbk5 1).trans (show _=some (Value.string (T x.den)) from rfl)
 have HBK:=Lib.hid hb5k
 have hz1:=zax hb5k 0 (.string ⟨#[]⟩)
 have hz2:=zax hz1 1 (.string ⟨#[]⟩)
 have HZ2:=Lib.hid (hz2.trans (show _=some (Obj.cells #[.string ⟨#[]⟩,.string ⟨#[]⟩] 23 (0,0)) from rfl))
 have HBZ:=Lib.hid (zaf (zaf (g:=B0) (j:=0) (v:=.string ⟨#[]⟩) hB5 (by have:=HBE.out; omega)) (j:=1) (v:=.string ⟨#[]⟩) (g:=B0) (by have:=HBE.out; omega))
 clear hz1 hz2
 clear hbk hbk4 hbk5 hb5k hk2 hk4 hb1 hb2 hb3 hb4 hba5 hD1 hD3
 have HSM:=Lib.hid (show (Sm x↔(T x.num.natAbs).size≤600∧(T x.den).size≤600) from ⟨fun h=>⟨(zas (by decide)).2 h.1,(zas (by decide)).2 h.2⟩,fun h=>⟨(zas (by decide)).1 h.1,(zas (by decide)).1 h.2⟩⟩)
 by_cases h1:(T x.num.natAbs).size≤600
 ·have h1I:¬ (600:Int)<((T x.num.natAbs).size:Int):=by omega
  by_cases h2:(T x.den).size≤600
  ·have h2I:¬ (600:Int)<((T x.den).size:Int):=by omega
   refine (HT _).mono ?_
   rintro e w6 ⟨rfl,rfl⟩
   have hs1:=zax HBK.out 0 (.string (wtext x.num))
   have hs2:=zax hs1 1 (.string (T x.den))
   have HS2:=Lib.hid (hs2.trans (show _=some (Obj.cells #[.string (wtext x.num),.string (T x.den)] 23 (0,0)) from rfl))
   have hBF:=zaf (zaf (g:=B0) (j:=0) (v:=.string (wtext x.num)) hB5 (by have:=HBE.out; omega)) (j:=1) (v:=.string (T x.den)) (g:=B0) (by have:=HBE.out; omega)
   have HTE:=Lib.hid (show toldR x=(wtext x.num,T x.den,0) by rw [HS.out,if_pos (HSM.out.2 ⟨h1,h2⟩)])
   clear hs1 hs2 h1 h2
   go_wp2
   refine bodyPost_ret (zba rfl _ _ B0 23 #[.string (wtext x.num),.string (T x.den)] (0,0) _ rfl HS2.out Tryz.underlying23 rfl (by kernel_rfl)) rfl ?_
   exact ⟨by rw [HTE.out]; rfl,hBF⟩
  ·have h2I:(600:Int)<((T x.den).size:Int):=by omega
   refine (HT _).mono ?_
   rintro e w6 ⟨rfl,rfl⟩
   have HTE:=Lib.hid (show toldR x=(⟨#[]⟩,⟨#[]⟩,7) by rw [HS.out,if_neg (fun h=>h2 (HSM.out.1 h).2)])
   clear h1 h2
   go_wp2
   refine bodyPost_ret (zba rfl _ _ B0 23 #[.string ⟨#[]⟩,.string ⟨#[]⟩] (0,0) _ rfl HZ2.out Tryz.underlying23 rfl (by kernel_rfl)) rfl ?_
   exact ⟨by rw [HTE.out]; rfl,HBZ.out⟩
 ·have h1I:(600:Int)<((T x.num.natAbs).size:Int):=by omega
  refine (HT _).mono ?_
  rintro e w6 ⟨rfl,rfl⟩
  have HTE:=Lib.hid (show toldR x=(⟨#[]⟩,⟨#[]⟩,7) by rw [HS.out,if_neg (fun h=>h1 (HSM.out.1 h).1)])
  clear h1
  go_wp2
  refine bodyPost_ret (zba rfl _ _ B0 23 #[.string ⟨#[]⟩,.string ⟨#[]⟩] (0,0) _ rfl HZ2.out Tryz.underlying23 rfl (by kernel_rfl)) rfl ?_
  exact ⟨by rw [HTE.out]; rfl,HBZ.out⟩
end Go.Proofs.ZP
end
section
namespace Go.Proofs.ZQ
open Go.RowKit Go.Proofs.ZW.Wa Go.Proofs.ZP
noncomputable def rat_Right.f (a0_0 a0_1:ByteArray):Option Bool:=by classical exact some (decide (∃ x,RR a0_0 a0_1 x))
theorem right_walk (a b:ByteArray) (r:Bool) (w:World) (h:r=true↔∃ x,RR a b x) :
  Calls Tryz.prog 35 #[.agg #[.string a,.string b]] w fun e w'=>e = .returned (.bool r)∧Below w.heap.size w w':=by
 have hba:=zaa (Below.refl w.heap.size w) (.cells #[.string a,.string b] 23)
 have c0:(w.alloc (.cells #[.string a,.string b] 23)).cell? ⟨w.heap.size,0,none⟩=some (.string a):=(zag (zaO w (.cells #[.string a,.string b] 23)) 0).trans rfl
 have c1:(w.alloc (.cells #[.string a,.string b] 23)).cell? ⟨w.heap.size,1,none⟩=some (.string b):=(zag (zaO w (.cells #[.string a,.string b] 23)) 1).trans rfl
 cases r
 ·have HR:=fun W=>read_no a b W (fun e=>by have:=h.2 e; cases this)
  clear h
  go_enter Tryz.func35,Tryz.ntmps35
  go_wp2_with fail
  refine (HR _).mono ?_
  rintro e w1 ⟨rfl,hb1⟩
  go_wp2
  go_ret
  exact ⟨rfl,bthen hba hb1⟩
 ·obtain ⟨x,hx⟩:=h.1 rfl
  have HR:=fun W=>read_yes x W hx.ln hx.ld
  rw [←hx.num,←hx.den] at HR
  clear h hx
  go_enter Tryz.func35,Tryz.ntmps35
  go_wp2_with fail
  refine (HR _).mono ?_
  rintro e w1 ⟨g,rfl,_,_,hb1⟩
  go_wp2
  go_ret
  exact ⟨rfl,bthen hba hb1⟩
def rat_Of.f (a0:Int):Option (ByteArray×ByteArray):=if -9223372036854775808≤a0∧a0<9223372036854775808 then some (wtext a0,⟨#[49]⟩) else none
def nval (s:ByteArray):Option Nat:=if rightB s then some (dval s.data.toList) else none
noncomputable def wval (s:ByteArray):Option Int:=by classical exact if h:∃ x,WR s x then some h.choose else if s=⟨#[45,48]⟩ then some 0 else none
theorem wtext_inj {x y:Int} (h:wtext x=wtext y):x=y:=by
 have h2:(wtext x).data.toList=(wtext y).data.toList:=by rw [h]
 by_cases hx:x<0<;>by_cases hy:y<0
 ·rw [zaT hx,zaT hy] at h2
  injection h2 with _ h2
  have:=T_inj ((zaD h2).trans (zaD rfl).symm)
  omega
 ·rw [zaT hx,zaK (by omega)] at h2
  exact absurd h2.symm (zcN _ _)
 ·rw [zaT hy,zaK (by omega)] at h2
  exact absurd h2 (zcN _ _)
 ·rw [zaK (by omega),zaK (by omega)] at h
  have:=T_inj h
  omega
noncomputable def rat_New.f (a0 a1:ByteArray):Option (ByteArray×ByteArray×Int):=
 match wval a0,nval a1 with
 | some x,some n=>if n=0 then some (⟨#[]⟩,⟨#[]⟩,8) else some (toldR (Rat.divInt x n))
 | _,_=>some (⟨#[]⟩,⟨#[]⟩,3)
theorem ba_loop (s:ByteArray):∀ (d i:Nat) (r:List UInt8),d=s.size-i→ByteArray.toList.loop s i r=r.reverse++s.data.toList.drop i:=by
 have hl:s.data.toList.length=s.size:=zak s
 intro d
 induction d with
 | zero=>intro i r h; rw [ByteArray.toList.loop,if_neg (by omega),List.drop_eq_nil_of_le (by omega),List.append_nil]
 | succ d ih =>
  intro i r h
  have hi:i<s.data.toList.length:=by omega
  have hg:s.get! i=s.data.toList[i]:=by
   show s.data[i]! = _
   rw [getElem!_pos s.data i (by simpa using hi),Array.getElem_toList]
  rw [ByteArray.toList.loop,if_pos (by omega),ih (i+1) _ (by omega),List.drop_eq_getElem_cons hi,hg]
  simp
theorem ba_toList (s:ByteArray):s.toList=s.data.toList:=by
 unfold ByteArray.toList
 rw [ba_loop s s.size 0 [] (by omega)]; rfl
end Go.Proofs.ZQ
end
section
namespace Go.Proofs.ZP
open Go.RowKit Go.Proofs.ZW.Wa Go.Proofs.ZW.Wb Go.Proofs.ZW.Wc
attribute [local go_sem] zaC zaB zaM zaL zaz zay zaF zaE
def c1_Of.l0:Nat→Int→ByteArray→Option (ByteArray)
 | 0,_,_=>none
 | k+1,x0,x3=>if x0>9 then ((some (([(IntKind.u64.wrap (48+(Int.tmod x0 10)))%256]:List Int):List Int)).bind fun y257=>(if (strOfNums y257).size+x3.size≤9223372036854775807 then (c1_Of.l0 k (IntKind.u64.wrap (Int.tdiv x0 10)) ((strOfNums y257)++x3)) else (none))) else ((some (([(IntKind.u64.wrap (48+x0))%256]:List Int):List Int)).bind fun y260=>(if (strOfNums y260).size+x3.size≤9223372036854775807 then (some ((strOfNums y260)++x3)) else (none)))
def c1_Of.f (k:Nat) (a0:Int):Option (ByteArray):=c1_Of.l0 k a0 (⟨#[]⟩:ByteArray)
theorem c1_Of.calls (k:Nat) (a0:Int) (r:ByteArray) (w:World) (h:c1_Of.f k a0=some r) :
  Calls Tryz.prog 148 #[.int .u64 a0] w fun e w'=>e = .returned (.string r)∧Below w.heap.size w w':=by
 have HB:=Aside0.mk (Below.refl w.heap.size w)
 have H:(c1_Of.l0 k a0 (⟨#[]⟩:ByteArray))=some r:=h
 clear h
 have H':=Aside0.mk H
 clear H
 go_enter Tryz.func148,Tryz.ntmps148
 go_wp2
 go_loopg [0,3] k (fun kq v0 v3 w'=>∃ (x0_1:Int) (x3_1:ByteArray),v0 = .int .u64 x0_1∧v3 = .string x3_1∧Aside0 (c1_Of.l0 kq x0_1 x3_1=some r)∧Aside0 (kq≤k)∧Aside0 (Below w.heap.size w w'))
 case atStart=>exact ⟨(a0),((⟨#[]⟩:ByteArray)),(by first|rfl|(simp; done)|(simp [*]; done)),(by first|rfl|(simp; done)|(simp [*]; done)),H',⟨Nat.le_refl _⟩,⟨by repeat (first|(with_reducible first|exact HB.out|apply zaa|apply zab|apply zac)|exact HB.out)⟩⟩
 case round =>
  clear H'
  try clear c1
  obtain ⟨x0_1,x3_1,rfl,rfl,HA,HK1,HB⟩:=hrel
  cases gk with
  | zero=>exact absurd HA.out (by simp [c1_Of.l0])
  | succ k1 =>
   have H:=HA.out
   clear HA
   simp only [c1_Of.l0] at H
   by_cases c2:x0_1>9
   ·rw [if_pos c2] at H
    have c2b0:decide (9<x0_1)=true:=decide_eq_true c2
    clear c2
    obtain ⟨y257,hy257⟩:∃ y_:List Int,y_=(([(IntKind.u64.wrap (48+(Int.tmod x0_1 10)))%256]:List Int)):=⟨_,rfl⟩
    replace H:(if (strOfNums y257).size+x3_1.size≤9223372036854775807 then (c1_Of.l0 k1 (IntKind.u64.wrap (Int.tdiv x0_1 10)) ((strOfNums y257)++x3_1)) else (none))=some r:=by first|(rw [hy257]; with_reducible exact H)|(have H2_:=(Option.bind_some _ _).symm.trans H; rw [hy257]; with_reducible exact H2_)|(have H2_:=(Option.bind_some _ _).symm.trans H; with_reducible exact H2_)|with_reducible exact H|(rw [hy257]; exact H)|exact H
    have Ny257:=Aside0.mk hy257
    clear hy257
    by_cases c3:(strOfNums y257).size+x3_1.size≤9223372036854775807
    ·rw [if_pos c3] at H
     have c3b0:=eq_true c3
     have c3b1:decide ((strOfNums y257).size+x3_1.size≤9223372036854775807)=true:=decide_eq_true c3
     try have c3b2:(9223372036854775807<(strOfNums y257).size+x3_1.size)=False:=eq_false (Nat.not_lt.2 c3)
     have H':=Aside0.mk H
     clear H
     go_wp2_with (first|((with_reducible refine zaG (N:=10) rfl ?_); refine Kd.R_lit (Kd.int .u8) _ 5 ?hg (N:=10) ?hd (xs:=([(IntKind.u64.wrap (48+(Int.tmod x0_1 10)))%256]:List Int)) (inner:=[.int .u8 ((IntKind.u64.wrap (48+(Int.tmod x0_1 10)))%256)]) (ok:=fun _=>True) (okp:=fun _=>True) ?hr ?hp (fun _ hk=>hk) trivial (Below.refl _ _) (Nat.le_refl _) (by simp) ?_; (case hd=>rfl); (case hg=>rfl); (case hr=>first|(go_simp; done)|(go_simp; rfl)); (case hp=>exact (Reps.one (show Kd.M (Kd.int .u8) _ _ _ ((IntKind.u64.wrap (48+(Int.tmod x0_1 10)))%256) [.int .u8 ((IntKind.u64.wrap (48+(Int.tmod x0_1 10)))%256)] from rfl) (Reps.none _ _))); intro v258 w4 ho5 hb hg_ hnew_; clear hg_ hnew_; (first|rw [←Ny257.out] at ho5|(simp only [Int.reduceToNat] at ho5; rw [←Ny257.out] at ho5)); have n0_:=Aside0.mk (Kd.R_lower ho5 (zal (by repeat (first|(with_reducible first|exact HB.out|apply zaa|apply zab|apply zac)|exact HB.out)))); have n1_:=Aside0.mk (zam (by repeat (first|(with_reducible first|exact HB.out|apply zaa|apply zab|apply zac)|exact HB.out)) hb); clear HB; have HO259:=n0_; have HB:=n1_; clear n0_ n1_; clear hb ho5; have hcv6:=zcQ (P:=Tryz.prog) Tryz.underlying95 Tryz.underlying5 Tryz.underlying9 (Kd.own_of_R HO259.out)))
     go_roundg k1
     case measure=>have:=HK1.out; omega
     case rel=>exact ⟨(IntKind.u64.wrap (Int.tdiv x0_1 10)),((strOfNums y257)++x3_1),(by first|rfl|(simp; done)|(simp [*]; done)),(by first|rfl|(simp; done)|(simp [*]; done)),H',⟨by have:=HK1.out; omega⟩,⟨by repeat (first|(with_reducible first|exact HB.out|apply zaa|apply zab|apply zac)|exact HB.out)⟩⟩
    ·rw [if_neg c3] at H
     exact absurd H (by simp)
   ·rw [if_neg c2] at H
    have c2b0:decide (9<x0_1)=false:=decide_eq_false c2
    clear c2
    obtain ⟨y260,hy260⟩:∃ y_:List Int,y_=(([(IntKind.u64.wrap (48+x0_1))%256]:List Int)):=⟨_,rfl⟩
    replace H:(if (strOfNums y260).size+x3_1.size≤9223372036854775807 then (some ((strOfNums y260)++x3_1)) else (none))=some r:=by first|(rw [hy260]; with_reducible exact H)|(have H2_:=(Option.bind_some _ _).symm.trans H; rw [hy260]; with_reducible exact H2_)|(have H2_:=(Option.bind_some _ _).symm.trans H; with_reducible exact H2_)|with_reducible exact H|(rw [hy260]; exact H)|exact H
    have Ny260:=Aside0.mk hy260
    clear hy260
    by_cases c7:(strOfNums y260).size+x3_1.size≤9223372036854775807
    ·rw [if_pos c7] at H
     have c7b0:=eq_true c7
     have c7b1:decide ((strOfNums y260).size+x3_1.size≤9223372036854775807)=true:=decide_eq_true c7
     try have c7b2:(9223372036854775807<(strOfNums y260).size+x3_1.size)=False:=eq_false (Nat.not_lt.2 c7)
     obtain rfl:=Option.some.inj H
     go_wp2_with (first|((with_reducible refine zaG (N:=19) rfl ?_); refine Kd.R_lit (Kd.int .u8) _ 5 ?hg (N:=19) ?hd (xs:=([(IntKind.u64.wrap (48+x0_1))%256]:List Int)) (inner:=[.int .u8 ((IntKind.u64.wrap (48+x0_1))%256)]) (ok:=fun _=>True) (okp:=fun _=>True) ?hr ?hp (fun _ hk=>hk) trivial (Below.refl _ _) (Nat.le_refl _) (by simp) ?_; (case hd=>rfl); (case hg=>rfl); (case hr=>first|(go_simp; done)|(go_simp; rfl)); (case hp=>exact (Reps.one (show Kd.M (Kd.int .u8) _ _ _ ((IntKind.u64.wrap (48+x0_1))%256) [.int .u8 ((IntKind.u64.wrap (48+x0_1))%256)] from rfl) (Reps.none _ _))); intro v261 w8 ho9 hb hg_ hnew_; clear hg_ hnew_; (first|rw [←Ny260.out] at ho9|(simp only [Int.reduceToNat] at ho9; rw [←Ny260.out] at ho9)); have n0_:=Aside0.mk (Kd.R_lower ho9 (zal (by repeat (first|(with_reducible first|exact HB.out|apply zaa|apply zab|apply zac)|exact HB.out)))); have n1_:=Aside0.mk (zam (by repeat (first|(with_reducible first|exact HB.out|apply zaa|apply zab|apply zac)|exact HB.out)) hb); clear HB; have HO262:=n0_; have HB:=n1_; clear n0_ n1_; clear hb ho9; have hcv10:=zcQ (P:=Tryz.prog) Tryz.underlying95 Tryz.underlying5 Tryz.underlying9 (Kd.own_of_R HO262.out)))
     go_ret
     exact ⟨by first|rfl|(simp [zao,zan]<;>rfl)|(simp [*,zao,zan]<;>rfl),by repeat (first|(with_reducible first|exact HB.out|apply zaa|apply zab|apply zac)|exact HB.out)⟩
    ·rw [if_neg c7] at H
     exact absurd H (by simp)
end Go.Proofs.ZP
end
section
namespace Go.Proofs.ZP
open Go.RowKit Go.Proofs.ZW.Wa
theorem ref_loop (s:ByteArray) (hs:s.size≤1099511627776):∀ (d i:Nat),d=s.size-i→i≤s.size→Ev (fun k=>c1_natural.l0 k s (i:Int)) (decide (Dig (s.data.toList.drop i))):=by
 have hl:s.data.toList.length=s.size:=zak s
 intro d
 induction d with
 | zero =>
  intro i hd hi
  have:Dig (s.data.toList.drop i):=by rw [List.drop_eq_nil_of_le (by omega)]; intro c hc; cases hc
  rw [decide_eq_true this]
  refine Ev.step (f:=fun _=>some true) (fun k => ?_) (Ev.now _)
  simp only [c1_natural.l0]
  rw [if_neg (by omega)]
 | succ d ih =>
  intro i hd hi
  have hil:i<s.data.toList.length:=by omega
  have hb:=bt_nth s hil
  have hdd:=dig_drop hil
  by_cases h1:s.data.toList[i].toNat<48
  ·rw [decide_eq_false (fun h=>by have:=(hdd.1 h).1; omega)]
   refine Ev.step (f:=fun _=>some false) (fun k => ?_) (Ev.now _)
   simp only [c1_natural.l0]
   rw [if_pos (by omega),if_pos (by omega),hb,if_pos (by omega)]
  ·by_cases h2:s.data.toList[i].toNat>57
   ·rw [decide_eq_false (fun h=>by have:=(hdd.1 h).1; omega)]
    refine Ev.step (f:=fun _=>some false) (fun k => ?_) (Ev.now _)
    simp only [c1_natural.l0]
    rw [if_pos (by omega),if_pos (by omega),hb,if_neg (by omega),if_pos (by omega)]
   ·have e:decide (Dig (s.data.toList.drop i))=decide (Dig (s.data.toList.drop (i+1))):=decide_eq_decide.2 ⟨fun h=>(hdd.1 h).2,fun h=>hdd.2 ⟨by omega,h⟩⟩
    rw [e]
    refine Ev.step (f:=fun k=>c1_natural.l0 k s ((i+1:Nat):Int)) (fun k => ?_) (ih (i+1) (by omega) (by omega))
    simp only [c1_natural.l0]
    rw [if_pos (by omega),if_pos (by omega),hb,if_neg (by omega),if_neg (by omega),w64' (by omega) (by omega)]
    rfl
theorem natural_ev (s:ByteArray) (hs:s.size≤1099511627776):Ev (fun k=>c1_natural.f k s) (decide (Can s.data.toList)):=by
 have hl:s.data.toList.length=s.size:=zak s
 have hF:∀ b,b=false→Ev (fun k=>c1_natural.j0 k s true) b:=fun b hb=>by
  subst hb
  refine Ev.step (f:=fun _=>some false) (fun k => ?_) (Ev.now _)
  simp [c1_natural.j0]
 have hL:=ref_loop s hs s.size 0 (by omega) (by omega)
 rw [List.drop_zero] at hL
 have hgo:∀ b:Bool,(Dig s.data.toList↔b=true)→Ev (fun k=>c1_natural.j0 k s false) b:=fun b hb=>by
  have:b=decide (Dig s.data.toList):=by
   cases b
   ·exact (decide_eq_false (fun h=>by have:=hb.1 h; cases this)).symm
   ·exact (decide_eq_true (hb.2 rfl)).symm
  rw [this]
  refine Ev.step (fun k => ?_) hL
  simp only [c1_natural.j0]
  rfl
 unfold c1_natural.f
 by_cases h0:s.toList=([]:List UInt8)
 ·refine Ev.congr (f:=fun k=>c1_natural.j0 k s true) (fun k=>if_pos h0) (hF _ (decide_eq_false (fun h => ?_)))
  rw [ZQ.ba_toList] at h0
  have:=h.1
  rw [h0] at this
  simp at this
 ·have hp:0<s.data.toList.length:=by
   rw [ZQ.ba_toList] at h0
   exact List.length_pos_iff.2 h0
  have hb:=bt_nth s hp
  have hb0:bt s 0=(s.data.toList[0].toNat:Int):=hb
  by_cases h48:bt s 0=48
  ·by_cases h1:(s.size:Int)>1
   ·refine Ev.congr (f:=fun k=>c1_natural.j0 k s true) (fun k=>by rw [if_neg h0,if_pos (by omega),if_pos h48,decide_eq_true h1]) (hF _ (decide_eq_false (fun h => ?_)))
    have:=((can_iff hp).1 h).2 (u48.1 (by omega))
    omega
   ·refine Ev.congr (f:=fun k=>c1_natural.j0 k s false) (fun k=>by rw [if_neg h0,if_pos (by omega),if_pos h48,decide_eq_false h1]) (hgo _ ?_)
    rw [decide_eq_true_iff,can_iff hp]
    exact ⟨fun h=>⟨h,fun _=>by omega⟩,fun h=>h.1⟩
  ·refine Ev.congr (f:=fun k=>c1_natural.j0 k s false) (fun k=>by rw [if_neg h0,if_pos (by omega),if_neg h48]) (hgo _ ?_)
   rw [decide_eq_true_iff,can_iff hp]
   exact ⟨fun h=>⟨h,fun e=>absurd (by rw [hb0]; exact u48.2 e) h48⟩,fun h=>h.1⟩
theorem ref_right_ev (s:ByteArray):Ev (fun k=>c1_Right.f k s) (rightB s):=by
 unfold c1_Right.f rightB
 by_cases h:(s.size:Int)≤600
 ·have e:decide (Can s.data.toList∧s.size≤600)=decide (Can s.data.toList):=decide_eq_decide.2 ⟨fun h=>h.1,fun h'=>⟨h',by omega⟩⟩
  rw [e]
  refine Ev.congr (f:=fun k=>(c1_natural.f k s).bind fun t267=>(some t267)) (fun k=>if_pos h) (Ev.bind (natural_ev s (by omega)) (Ev.now _))
 ·rw [decide_eq_false (fun h'=>h (by have:=h'.2; omega))]
  exact Ev.congr (f:=fun _=>some false) (fun k=>if_neg h) (Ev.now _)
theorem str_one {d:Nat} (h:d<10):strOfNums [(48:Int)+(d:Int)]=⟨#[UInt8.ofNat (48+d)]⟩:=by
 unfold strOfNums
 simp only [List.map_cons,List.map_nil]
 rw [show ((48:Int)+(d:Int)).toNat=48+d by omega]
theorem of_ev:∀ (n:Nat) (s:ByteArray),n<18446744073709551616→∀ b:Nat,s.size+(decl n).length≤b→b≤1000000→Ev (fun k=>c1_Of.l0 k (n:Int) s) (⟨(decl n).toArray⟩++s):=by
 intro n
 induction n using Nat.strongRecOn with
 | ind n ih =>
  intro s hn b hb hb2
  by_cases h:n>9
  ·have hd:decl n=decl (n/10) ++ [UInt8.ofNat (48+n%10)]:=by
    have:=zcL (m:=n/10) (d:=n%10) (by omega) (by omega)
    rwa [show 10*(n/10)+n%10=n by omega] at this
   have e1:(IntKind.u64.wrap (48+(Int.tmod (n:Int) 10)))%256=48+((n%10:Nat):Int):=by
    rw [Int.tmod_eq_emod_of_nonneg (by omega),IntKind.wrap_u64]; omega
   have e2:IntKind.u64.wrap (Int.tdiv (n:Int) 10)=((n/10:Nat):Int):=by
    rw [Int.tdiv_eq_ediv_of_nonneg (by omega),IntKind.wrap_u64]; omega
   have hsz:((⟨#[UInt8.ofNat (48+n%10)]⟩:ByteArray)++s).size=1+s.size:=by rw [ByteArray.size_append]; rfl
   have hl:(decl n).length=(decl (n/10)).length+1:=by rw [hd]; simp
   have hs:=ih (n/10) (by omega) (⟨#[UInt8.ofNat (48+n%10)]⟩++s) (by omega) b (by rw [hsz]; omega) hb2
   have e3:(⟨(decl (n/10)).toArray⟩:ByteArray)++(⟨#[UInt8.ofNat (48+n%10)]⟩++s)=⟨(decl n).toArray⟩++s:=by
    rw [hd]
    refine (zaD (?_:_=(decl (n/10) ++ [UInt8.ofNat (48+n%10)])++s.data.toList)).trans (zaD ?_).symm
    all_goals simp
   rw [e3] at hs
   refine Ev.step (fun k => ?_) hs
   simp only [c1_Of.l0]
   rw [if_pos (by omega),Option.bind_some,e1,str_one (by omega),e2,if_pos (by rw [show (⟨#[UInt8.ofNat (48+n%10)]⟩:ByteArray).size=1 from rfl]; omega)]
  ·have e1:(IntKind.u64.wrap (48+(n:Int)))%256=48+(n:Int):=by rw [IntKind.wrap_u64]; omega
   refine Ev.step (f:=fun _=>some (⟨(decl n).toArray⟩++s)) (fun k => ?_) (Ev.now _)
   simp only [c1_Of.l0]
   rw [if_neg (by omega),Option.bind_some,e1,str_one (by omega),if_pos (by rw [show (⟨#[UInt8.ofNat (48+n)]⟩:ByteArray).size=1 from rfl]; omega),zbo (by omega)]
theorem of_tells (n:Nat) (h:n<18446744073709551616):Ev (fun k=>c1_Of.f k (n:Int)) (T n):=by
 have hl:(decl n).length≤20:=(zbf (by decide)).2 (Nat.lt_of_lt_of_le h (by decide))
 have h0:(⟨#[]⟩:ByteArray).size=0:=rfl
 have:=of_ev n ⟨#[]⟩ h 1000 (by omega) (by decide)
 have e:(⟨(decl n).toArray⟩:ByteArray)++⟨#[]⟩=T n:=(zaD (by simp)).trans rfl
 rw [e] at this
 exact this
def c1_text.f (l0:List Int):Option ByteArray:=if l0=lim (lv l0).toNat∧l0.length≤1099511627776 then some (T (lv l0).toNat) else none
theorem zdi (n:Nat) (h:(lim n).length≤1099511627776):c1_text.f (lim n)=some (T n):=by
 unfold c1_text.f
 rw [zbL,Int.toNat_natCast,if_pos ⟨rfl,h⟩]
theorem text_some {l:List Int} {r:ByteArray} (h:c1_text.f l=some r):∃ n,l=lim n∧l.length≤1099511627776∧r=T n:=by
 unfold c1_text.f at h
 split at h
 ·rename_i hc
  exact ⟨_,hc.1,hc.2,(Option.some.inj h).symm⟩
 ·cases h
structure XSt (w wr:World) (l:List Int) (v:Value) (bs:List UInt8) (j:Nat):Prop where
 own:wr.ownsRow w.heap.size 5 1 v (bints bs).length (nums .u8 (bints bs))
 below:Below w.heap.size w wr
 dig:Dig bs
 len:bs.length=4*j
 eq:(dval bs:Int)=lv (l.drop (l.length-j))
def four (x:Int):List UInt8:=[UInt8.ofNat (48+x.toNat/1000%10),UInt8.ofNat (48+x.toNat/100%10),UInt8.ofNat (48+x.toNat/10%10),UInt8.ofNat (48+x.toNat%10)]
theorem bints_append (xs bs:List UInt8):bints (xs++bs)=bints xs++bints bs:=by simp [bints]
theorem four_bints {x:Int} (hx:0≤x∧x<10000):bints (four x) = [48+x/1000,48+x/100%10,48+x/10%10,48+x%10]:=by
 unfold four bints
 simp only [List.map_cons,List.map_nil]
 rw [za1 _ (by omega),za1 _ (by omega),za1 _ (by omega),za1 _ (by omega)]
 have h1:((48+x.toNat/1000%10:Nat):Int)=48+x/1000:=by omega
 have h2:((48+x.toNat/100%10:Nat):Int)=48+x/100%10:=by omega
 have h3:((48+x.toNat/10%10:Nat):Int)=48+x/10%10:=by omega
 have h4:((48+x.toNat%10:Nat):Int)=48+x%10:=by omega
 rw [h1,h2,h3,h4]
theorem four_dig (x:Int):Dig (four x):=by
 intro c hc
 unfold four at hc
 simp only [List.mem_cons,List.not_mem_nil,or_false] at hc
 rcases hc with rfl|rfl|rfl|rfl<;>(rw [za1 _ (by omega)]; omega)
theorem four_dval {x:Int} (hx:0≤x∧x<10000):(dval (four x):Int)=x:=by
 unfold four dval
 simp only [List.foldl_cons,List.foldl_nil]
 rw [za1 _ (by omega),za1 _ (by omega),za1 _ (by omega),za1 _ (by omega)]
 omega
theorem raw_four {x:Int} (hx:0≤x∧x<10000):[IntKind.u8.wrap (IntKind.i64.wrap (48+IntKind.i64.wrap (x.tdiv 1000))),IntKind.u8.wrap (IntKind.i64.wrap (48+(IntKind.i64.wrap (x.tdiv 100)).tmod 10)),IntKind.u8.wrap (IntKind.i64.wrap (48+(IntKind.i64.wrap (x.tdiv 10)).tmod 10)),IntKind.u8.wrap (IntKind.i64.wrap (48+x.tmod 10))] = [48+x/1000,48+x/100%10,48+x/10%10,48+x%10]:=by
 have e1:x.tdiv 1000=x/1000:=Int.tdiv_eq_ediv_of_nonneg hx.1
 have e2:x.tdiv 100=x/100:=Int.tdiv_eq_ediv_of_nonneg hx.1
 have e3:x.tdiv 10=x/10:=Int.tdiv_eq_ediv_of_nonneg hx.1
 have e4:x.tmod 10=x%10:=Int.tmod_eq_emod_of_nonneg hx.1
 have f1:IntKind.i64.wrap (x/1000)=x/1000:=by rw [IntKind.wrap_i64]; omega
 have f2:IntKind.i64.wrap (x/100)=x/100:=by rw [IntKind.wrap_i64]; omega
 have f3:IntKind.i64.wrap (x/10)=x/10:=by rw [IntKind.wrap_i64]; omega
 have g2:(x/100).tmod 10=x/100%10:=Int.tmod_eq_emod_of_nonneg (by omega)
 have g3:(x/10).tmod 10=x/10%10:=Int.tmod_eq_emod_of_nonneg (by omega)
 have w8:∀ y:Int,0≤y→y<256→IntKind.u8.wrap (IntKind.i64.wrap y)=y:=fun y h0 h1=>by
  rw [show IntKind.i64.wrap y=y by rw [IntKind.wrap_i64]; omega,IntKind.wrap_u8]; omega
 rw [e1,e2,e3,e4,f1,f2,f3,g2,g3,w8 _ (by omega) (by omega),w8 _ (by omega) (by omega),w8 _ (by omega) (by omega),w8 _ (by omega) (by omega)]
theorem lit_reads (w:World) (xs:List Int) (h:xs.length≤9223372036854775807):ReadsRow (fun (x:Int) (cs:List Value)=>cs = [.int .u8 x]) 1 (w.alloc (.cells (nums .u8 xs).toArray 5)).drew (some ⟨w.heap.size,0,none⟩) xs.length xs:=by
 obtain ⟨A,c,he,hr⟩:=zds (zcH w w.heap.size 5 .u8 xs (Nat.le_refl _) h).drew (zdo .u8 xs) rfl
 injection he with hA
 rw [hA]; exact hr
theorem rd_bints {bs:List UInt8} {k:Nat} (h:k<bs.length):rd (bints bs) (k:Int)=((bs[k].toNat:Nat):Int):=by
 have h2:k<(bints bs).length:=by unfold bints; rw [List.length_map]; exact h
 rw [rd_lt h2]
 simp [bints]
theorem drop_zero48 {bs:List UInt8} {k:Nat} (h:k<bs.length) (h48:bs[k]=48):dval (bs.drop (k+1))=dval (bs.drop k):=by
 rw [List.drop_eq_getElem_cons h,h48,zbY]
 have:(48:UInt8).toNat=48:=rfl
 rw [this]; omega
theorem drop_text {bs:List UInt8} {k n:Nat} (h:k<bs.length) (h48:bs[k]≠48) (hd:Dig bs) (hv:dval (bs.drop k)=n):strOfNums (bints (bs.drop k))=T n:=by
 have hc:Can (bs.drop k):=by
  refine ⟨by rw [List.length_drop]; omega,hd.drop k,fun e => ?_⟩
  rw [List.drop_eq_getElem_cons h,List.head?_cons] at e
  exact absurd (Option.some.inj e) h48
 have:=zdb _ _ rfl hc
 rw [hv] at this
 rw [str_bints]
 unfold T
 rw [this]
theorem reads_drop {w:World} {g n:Nat} {xs:List Int} (h:ReadsInt w .u8 (some ⟨g,0,none⟩) n xs) (k:Nat) (hk:k≤n):ReadsInt w .u8 (some ⟨g,k,none⟩) (n-k) (xs.drop k):=
 ⟨by rw [List.length_drop,h.1],by have:=h.2.1; omega,fun hp=>⟨⟨g,k,none⟩,rfl,fun j hj=>by
  obtain ⟨ad,he,hc⟩:=h.2.2 (by omega)
  injection he with he
  subst he
  have h2:=hc (k+j) (by omega)
  have e:(⟨g,0,none⟩:Addr).add (k+j)=(⟨g,k,none⟩:Addr).add j:=by rw [add_at,add_at,Nat.zero_add]
  rw [←e,h2]
  simp [List.getD_eq_getElem?_getD,List.getElem?_drop]⟩⟩
theorem bints_drop (bs:List UInt8) (k:Nat):(bints bs).drop k=bints (bs.drop k):=by simp [bints,List.map_drop]
theorem XSt.more {w wr w1:World} {l:List Int} {v v1:Value} {bs:List UInt8} {j m:Nat} {x:Int} (h:XSt w wr l v bs j) (hx:rd l (m:Int)=x) (hx2:0≤x∧x<10000) (hm:m+j+1=l.length)
  (ho:w1.ownsRow w.heap.size 5 1 v1 (bints bs ++ [48+x/1000,48+x/100%10,48+x/10%10,48+x%10]).length (nums .u8 (bints bs ++ [48+x/1000,48+x/100%10,48+x/10%10,48+x%10]))) (hb:Below w.heap.size w w1):Hid (XSt w w1 l v1 (bs++four x) (j+1)):=by
 rw [←four_bints hx2,←bints_append] at ho
 refine ⟨ho,hb,fun c hc=>(List.mem_append.1 hc).elim (h.dig c) (four_dig x c),by rw [List.length_append,h.len]; simp [four]; omega,?_⟩
 rw [za7,show (four x).length=4 from rfl,Int.natCast_add,Int.natCast_mul,h.eq,four_dval hx2]
 have e:l.length-(j+1)=m:=by omega
 have e2:l.length-j=m+1:=by omega
 have hml:m<l.length:=by omega
 rw [e,e2,List.drop_eq_getElem_cons hml]
 simp only [lv]
 rw [←hx,rd_lt hml]
 omega
theorem text_walk (A:Option Addr) (c n:Nat) (w:World) (hr:Kd.C (Kd.int .i64) w A (lim n).length (lim n)) (hc:(lim n).length≤c) (hl:(lim n).length≤1099511627776) :
  Calls Tryz.prog 207 #[.slice A (lim n).length c] w fun e w'=>e = .returned (.string (T n))∧Below w.heap.size w w':=by
 rcases Nat.eq_zero_or_pos n with h0|h0
 ·subst h0
  have hz:lim 0 = []:=zbG
  rw [hz]
  clear hr hc hl hz
  go_enter Tryz.func207,Tryz.ntmps207
  go_wp2
  go_ret
  exact ⟨rfl,Below.refl _ _⟩
 ·have hp:0<(lim n).length:=by rw [zcx h0]; simp
  have hne:(((lim n).length:Int) == 0)=false:=beq_eq_false_iff_ne.2 (by omega)
  have HLV:=Lib.hid (zbL n)
  have HLD:=Lib.hid (zch n)
  generalize lim n=l at *
  obtain ⟨i8,hi8,hz8,hs8,hb8⟩:∃ i,Tryz.prog.info? 5=some i∧i.zero=some (.int .u8 0)∧i.size=1∧i.bytes=1:=by
   have h:=infoU8
   rcases hq:Tryz.prog.info? 5 with _|i
   ·rw [hq] at h; cases h
   ·rw [hq] at h
    simp only [Option.map_some,Option.some.injEq,Prod.mk.injEq] at h
    exact ⟨i,rfl,h.1,h.2.1,h.2.2⟩
  obtain ⟨wm,hmk,how,hgm⟩:=run_make_own (P:=Tryz.prog) (w:=w) w.heap.size 95 5 i8 (.int .u8 0) 1 Tryz.underlying95 hi8 hz8 hs8 .i64 .i64 (4*l.length) (by rw [hb8]; omega) (by unfold maxLen; omega) (Nat.le_refl _)
  rw [show ((4*l.length:Nat):Int)=4*(l.length:Int) by omega] at hmk
  have HX0:Hid (XSt w wm l (.slice (some ⟨w.heap.size,0,none⟩) 0 (4*l.length)) [] 0):=⟨how,⟨hgm.os,hgm.tape,hgm.output,hgm.size,fun k hk=>hgm.block k hk (by simp)⟩,(by intro c hc; cases hc),rfl,by rw [Nat.sub_zero,List.drop_length]; rfl⟩
  clear how hgm hi8 hz8 hs8 hb8
  go_enter Tryz.func207,Tryz.ntmps207
  go_wp2_with fail
  go_loopw [3,4] (fun vb vi wr=>∃ (bs:List UInt8) (j:Nat),j≤l.length∧vi = .int .i64 ((l.length:Int)-1-j)∧Hid (XSt w wr l vb bs j)) (fun _ vi _=>(intOf vi+1).toNat)
  case atStart=>exact ⟨[],0,by omega,by go_num,HX0⟩
  case round =>
   obtain ⟨bs,j,hj,rfl,HX⟩:=hrel
   by_cases hjl:j<l.length
   ·obtain ⟨m,hm⟩:∃ m:Nat,m+j+1=l.length:=⟨l.length-1-j,by omega⟩
    rw [show (l.length:Int)-1-(j:Int)=(m:Int) by omega]
    obtain ⟨ad,rfl,hcw⟩:=Kd.at_int hr (m:Int) (by omega) (by omega)
    rw [Int.toNat_natCast] at hcw
    have hx:=HLD.out.rd (m:Int)
    obtain ⟨hx0,hx1⟩:=hx
    generalize hxe:rd l (m:Int)=x at hcw hx0 hx1
    have HXE:=Lib.hid hxe
    have hcell:=bcell HX.out.below hcw
    obtain ⟨A8,c8,rfl,hr8⟩:=zbU HX.out.own
    have hmI:(m:Int)<(l.length:Int):=by omega
    have hmN:m<l.length:=by omega
    have HM:=Lib.hid hm
    clear hxe hr8 hm
    have hll:((bints bs).length+4)*1≤140737488355328:=by have:=HX.out.len; unfold bints; rw [List.length_map]; omega
    have HRW:=Lib.hid (R_of_own8 (World.ownsRow.drew ((HX.out.own.alloc (.cells #[.int .u8 (IntKind.u8.wrap (IntKind.i64.wrap (48+IntKind.i64.wrap (x.tdiv 1000)))),.int .u8 (IntKind.u8.wrap (IntKind.i64.wrap (48+(IntKind.i64.wrap (x.tdiv 100)).tmod 10))),.int .u8 (IntKind.u8.wrap (IntKind.i64.wrap (48+(IntKind.i64.wrap (x.tdiv 10)).tmod 10))),.int .u8 (IntKind.u8.wrap (IntKind.i64.wrap (48+x.tmod 10)))] 5)))))
    have HLT:=Lib.hid (lit_reads wr [IntKind.u8.wrap (IntKind.i64.wrap (48+IntKind.i64.wrap (x.tdiv 1000))),IntKind.u8.wrap (IntKind.i64.wrap (48+(IntKind.i64.wrap (x.tdiv 100)).tmod 10)),IntKind.u8.wrap (IntKind.i64.wrap (48+(IntKind.i64.wrap (x.tdiv 10)).tmod 10)),IntKind.u8.wrap (IntKind.i64.wrap (48+x.tmod 10))] (by simp))
    have hbw:=zar ((bthen HX.out.below (zaa (Below.refl wr.heap.size wr) (.cells #[.int .u8 (IntKind.u8.wrap (IntKind.i64.wrap (48+IntKind.i64.wrap (x.tdiv 1000)))),.int .u8 (IntKind.u8.wrap (IntKind.i64.wrap (48+(IntKind.i64.wrap (x.tdiv 100)).tmod 10))),.int .u8 (IntKind.u8.wrap (IntKind.i64.wrap (48+(IntKind.i64.wrap (x.tdiv 10)).tmod 10))),.int .u8 (IntKind.u8.wrap (IntKind.i64.wrap (48+x.tmod 10)))] 5))))
    have HBW:=Lib.hid hbw
    have hsb:=hbw.size
    clear hbw
    go_wp2_with fail
    go_region_held3 (fun w'=>w'.cell? (ad.add m)=some (.int .i64 x)) (first|go_keep|exact hcell|exact bcell hb hcw)
     ((first
      | (refine Kd.R_append_rows_step (Kd.int .u8) (Rr:=fun (y:Int) (cs:List Value)=>cs = [.int .u8 y]) w.heap.size (by rfl) _ _ 95 5 (.int .u8 0) 1 rfl Tryz.underlying95 infoU8 rfl (by decide) (by decide) (.slice A8 (bints bs).length c8) (bints bs) [IntKind.u8.wrap (IntKind.i64.wrap (48+IntKind.i64.wrap (x.tdiv 1000))),IntKind.u8.wrap (IntKind.i64.wrap (48+(IntKind.i64.wrap (x.tdiv 100)).tmod 10)),IntKind.u8.wrap (IntKind.i64.wrap (48+(IntKind.i64.wrap (x.tdiv 10)).tmod 10)),IntKind.u8.wrap (IntKind.i64.wrap (48+x.tmod 10))] (some ⟨wr.heap.size,0,none⟩) 4 4 (fun _=>True) (fun _=>False) rfl rfl HRW.out HLT.out (fun _ _ h=>h) (fun _ h=>h.elim) (fun _ _=>trivial) HBW.out hsb hll ?_; intro v1 w1 hown hb hg hat)))
    rw [raw_four ⟨hx0,hx1⟩] at hown
    have HX2:=HX.out.more (x:=x) HXE.out ⟨hx0,hx1⟩ HM.out (own8_of_R hown) hb
    clear hown hg hat
    go_wp2
    go_roundw
    case rel=>exact ⟨bs++four x,j+1,by omega,congrArg (Value.int .i64) (by have:=HM.out; omega),HX2⟩
    case measure=>first|(simp [intOf]; done)|(simp [intOf]; omega)
   ·have hjj:j=l.length:=by omega
    subst hjj
    have hv:=HX.out.eq
    rw [Nat.sub_self,List.drop_zero,HLV.out] at hv
    have HV:=Lib.hid (show dval (bs.drop 0)=n by rw [List.drop_zero]; omega)
    have hbl:=HX.out.len
    have hbp:0<bs.length:=by omega
    have HBL:=Lib.hid hbl
    clear hv hbl
    rw [show (l.length:Int)-1-(l.length:Int) = -1 by omega]
    obtain ⟨g,cap,rfl,hg0,hg1⟩:=World.ownsRow.form HX.out.own (by unfold bints; rw [List.length_map]; exact hbp)
    clear hg1
    go_wp2_with fail
    go_loopw [5] (fun vk wr'=>∃ k:Nat,vk = .int .i64 k∧Hid (k≤bs.length∧dval (bs.drop k)=n)∧Hid (XSt w wr' l (.slice (some ⟨g,0,none⟩) (bints bs).length cap) bs l.length)) (fun vk _=>bs.length-(intOf vk).toNat)
    case atStart=>exact ⟨0,by go_num,Lib.hid ⟨by omega,HV.out⟩,HX⟩
    case round =>
     obtain ⟨k,rfl,HK,HX2⟩:=hrel
     have hk:k<bs.length:=by
      apply Classical.byContradiction
      intro hn
      have h1:=HK.out.2
      rw [List.drop_eq_nil_of_le (by omega),show dval []=0 from rfl] at h1
      omega
     have hkb:k<(bints bs).length:=by unfold bints; rw [List.length_map]; exact hk
     have hkI:(k:Int)<((bints bs).length:Int):=by omega
     have hcap:=own_le HX2.out.own
     obtain ⟨hs1,hs2⟩:=zb1 HX2.out.own (k:Int) (by omega) hkI
     rw [Int.toNat_natCast,rd_bints hk] at hs1
     have hbm:bs.length≤4398046511104:=by have:=HBL.out; omega
     by_cases h48:bs[k]=48
     ·rw [h48,show (((48:UInt8).toNat:Nat):Int)=48 from rfl] at hs1
      have HD:=Lib.hid (drop_zero48 hk h48)
      clear h48 hs2
      go_wp2
      go_roundw
      case rel=>exact ⟨k+1,by go_num,Lib.hid ⟨by omega,HD.out.trans HK.out.2⟩,HX2⟩
      case measure=>simp [intOf]; omega
     ·have hne:(((bs[k].toNat:Nat):Int) == 48)=false:=beq_eq_false_iff_ne.2 (fun e=>h48 (UInt8.toNat_inj.1 (by have:(48:UInt8).toNat=48:=rfl; omega)))
      have HFIN:=Lib.hid (drop_text hk h48 (HX2.out.dig) HK.out.2)
      have HR:=Lib.hid (zb6 HX2.out.own)
      clear h48 hs2
      generalize ((bs[k].toNat:Nat):Int)=u at hs1 hne
      have hcv:=string_of_reads (P:=Tryz.prog) (c:=cap-k) Tryz.underlying95 Tryz.underlying5 Tryz.underlying9 (reads_drop HR.out k (by omega))
      rw [bints_drop,HFIN.out] at hcv
      have hB:=HX2.out.below
      go_wp2
      go_ret
      exact ⟨rfl,hB⟩
theorem c1_text.calls (A0:Option Addr) (c0:Nat) (l0:List Int) (r:ByteArray) (w:World) (hr0:Kd.C (Kd.int .i64) w A0 l0.length l0) (hc0:l0.length≤c0) (h:c1_text.f l0=some r) :
  Calls Tryz.prog 207 #[.slice A0 l0.length c0] w fun e w'=>e = .returned (.string r)∧Below w.heap.size w w':=by
 obtain ⟨n,rfl,hl,rfl⟩:=text_some h
 exact text_walk A0 c0 n w hr0 hc0 hl
end Go.Proofs.ZP
end
