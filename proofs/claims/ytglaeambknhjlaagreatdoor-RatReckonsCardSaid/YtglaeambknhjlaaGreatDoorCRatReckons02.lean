/- Texts under the proof, joined by a program (prune.py): HAdd, HMul, P17, P22, P24, HShift. -/
import Derived.Test.YtglaeambknhjlaaGreatDoorCRatReckons01
import Derived.StillTailTactics
set_option linter.unusedVariables false
set_option linter.unusedSimpArgs false
set_option exponentiation.threshold 20001
set_option maxHeartbeats 8000000
set_option maxRecDepth 100000
section
set_option linter.unusedVariables false
namespace Go.Proofs.P9
open Go.RowKit Go.Proofs.W9.Wa
theorem zao (w:World) (n:Nat):Below w.heap.size w (w.drewN n):=zab (Below.refl _ _) n
theorem bthen {w w1 w2:World} (h:Below w.heap.size w w1) (k:Below w1.heap.size w1 w2):Below w.heap.size w w2:=below_then h h.size k
theorem za0 {xs ys:List Int} (hx:Wd xs) (hy:Wd ys) (ty:ys.getLast? ≠ some 0) (h:val ys≤val xs):ys.length≤xs.length:=by
 apply Classical.byContradiction
 intro hn
 have:=zcw hx hy ty (by omega)
 omega
theorem zbi {r a:Int} (h:r.sign=a.sign):0≤r↔0≤a:=by
 rcases zaV r with ⟨h1,h2⟩|⟨h1,h2⟩|⟨h1,h2⟩<;>rcases zaV a with ⟨k1,k2⟩|⟨k1,k2⟩|⟨k1,k2⟩<;>rw [h1,k1] at h<;>first|(exfalso; revert h; decide)|omega
theorem add_same_true (b o b1 o1 b2 o2:Nat) (x y:Int) (w:World) (hz:Slot w b o) (hx:IntAt w b1 o1 x) (hy:IntAt w b2 o2 y) (hd1:b1≠b∨o1+2≤o∨o+2≤o1) (hd2:b2≠b∨o2+2≤o∨o+2≤o2) {n:Nat} (hs:Bd n x) (ht:Bd n y) (hn:n≤big) (hx0:x<0) (hy0:y<0) :
  Calls Tryz.prog 199 #[.pointer (some ⟨b,o,none⟩),.pointer (some ⟨b1,o1,none⟩),.pointer (some ⟨b2,o2,none⟩)] w fun e w'=>e = .returned (.pointer (some ⟨b,o,none⟩))∧IntAt w' b o (x+y)∧Upd w w' b o (o+2):=by
 obtain ⟨neg,A,c,ws,h1,h2,h3,h4⟩:=hx.out
 obtain ⟨neg',A',c',ws',k1,k2,k3,k4⟩:=hy.out
 have hl1:ws.length≤34359738368:=h4.small hs hn
 have hl2:ws'.length≤34359738368:=k4.small ht hn
 have ex:=h4.eq
 have ey:=k4.eq
 clear hs ht
 have hneg:neg=true:=h4.neg_iff.2 hx0
 have hneg':neg'=true:=k4.neg_iff.2 hy0
 subst hneg; subst hneg'
 have hk:sg true (val ws+val ws')=x+y:=by rw [ex,ey]; unfold sg; simp<;>omega
 have HK:=Lib.hid hk
 have LL1:=Lib.hid (show ws.length≤35184372088832 by omega)
 have LL2:=Lib.hid (show ws'.length≤35184372088832 by omega)
 clear ex ey hk
 go_enter Tryz.func199,Tryz.ntmps199
 go_wp2_with fail
 go_quiet (fail)
 generalize hq:w.drewN _=w1
 have HB1:=Lib.hid (show Below w.heap.size w w1 from by subst hq; exact zao _ _)
 have g1:w1.cell? ⟨b1,o1,none⟩=some (.bool true):=by subst hq; exact h1
 have g2:w1.cell? ⟨b1,o1+1,none⟩=some (.slice A ws.length c):=by subst hq; exact h2
 have g3:w1.cell? ⟨b2,o2,none⟩=some (.bool true):=by subst hq; exact k1
 have g4:w1.cell? ⟨b2,o2+1,none⟩=some (.slice A' ws'.length c'):=by subst hq; exact k2
 clear hq h1 h2 k1 k2
 go_wp2_with fail
 go_region_held3 (fun w'=>w'.cell? ⟨b1,o1,none⟩=some (.bool true)∧w'.cell? ⟨b1,o1+1,none⟩=some (.slice A ws.length c)∧w'.cell? ⟨b2,o2,none⟩=some (.bool true)∧w'.cell? ⟨b2,o2+1,none⟩=some (.slice A' ws'.length c'))
  (first|go_keep|exact ⟨g1,g2,g3,g4⟩|exact ⟨zaN g1 (bthen (zae w1) hb2) hu3 (hz.upd (Upd.of_below (bthen (bthen HB1.out (zae _)) hb2) 0 0 0)) (by omega),zaN g2 (bthen (zae w1) hb2) hu3 (hz.upd (Upd.of_below (bthen (bthen HB1.out (zae _)) hb2) 0 0 0)) (by omega),zaN g3 (bthen (zae w1) hb2) hu3 (hz.upd (Upd.of_below (bthen (bthen HB1.out (zae _)) hb2) 0 0 0)) (by omega),zaN g4 (bthen (zae w1) hb2) hu3 (hz.upd (Upd.of_below (bthen (bthen HB1.out (zae _)) hb2) 0 0 0)) (by omega)⟩|exact ⟨((bthen (zae w1) hb2).cell (World.block_lt_of_cell? _ _ g1)).trans g1,((bthen (zae w1) hb2).cell (World.block_lt_of_cell? _ _ g2)).trans g2,((bthen (zae w1) hb2).cell (World.block_lt_of_cell? _ _ g3)).trans g3,((bthen (zae w1) hb2).cell (World.block_lt_of_cell? _ _ g4)).trans g4⟩)
  ((first
   | (go_simp; go_at_call 233; refine (zdk A c ws A' c' ws' _ (h3.below (bthen HB1.out (zae _))) (k3.below (bthen HB1.out (zae _))) h4.wd k4.wd LL1.out LL2.out).mono ?_; rintro e w2 ⟨A2,c2,zs,rfl,hw2,hz2,hv2,hzl2,hb2⟩; have HV2:=Lib.hid hv2; clear hv2 hzl2)
   | (go_simp; go_at_call 187; refine (zaM b o true A2 c2 zs _ (hz.upd (Upd.of_below (bthen (bthen HB1.out (zae _)) hb2) 0 0 0)) hw2 hz2).mono ?_; rintro e w3 ⟨rfl,hx3,hu3⟩)))
 all_goals
  have hfin:sg true (val zs)=x+y:=by rw [HV2.out]; exact HK.out
  rw [hfin] at hx3
  go_wp2
  go_ret
  exact ⟨rfl,hx3,(((Upd.of_below HB1.out _ _ _).trans (Upd.of_below (zae _) _ _ _)).trans (Upd.of_below hb2 _ _ _)).trans hu3⟩
theorem add_same_false (b o b1 o1 b2 o2:Nat) (x y:Int) (w:World) (hz:Slot w b o) (hx:IntAt w b1 o1 x) (hy:IntAt w b2 o2 y) (hd1:b1≠b∨o1+2≤o∨o+2≤o1) (hd2:b2≠b∨o2+2≤o∨o+2≤o2) {n:Nat} (hs:Bd n x) (ht:Bd n y) (hn:n≤big) (hx0:0≤x) (hy0:0≤y) :
  Calls Tryz.prog 199 #[.pointer (some ⟨b,o,none⟩),.pointer (some ⟨b1,o1,none⟩),.pointer (some ⟨b2,o2,none⟩)] w fun e w'=>e = .returned (.pointer (some ⟨b,o,none⟩))∧IntAt w' b o (x+y)∧Upd w w' b o (o+2):=by
 obtain ⟨neg,A,c,ws,h1,h2,h3,h4⟩:=hx.out
 obtain ⟨neg',A',c',ws',k1,k2,k3,k4⟩:=hy.out
 have hl1:ws.length≤34359738368:=h4.small hs hn
 have hl2:ws'.length≤34359738368:=k4.small ht hn
 have ex:=h4.eq
 have ey:=k4.eq
 clear hs ht
 have hneg:neg=false:=by cases neg; rfl; exact absurd (h4.neg_iff.1 rfl) (by omega)
 have hneg':neg'=false:=by cases neg'; rfl; exact absurd (k4.neg_iff.1 rfl) (by omega)
 subst hneg; subst hneg'
 have hk:sg false (val ws+val ws')=x+y:=by rw [ex,ey]; unfold sg; simp<;>omega
 have HK:=Lib.hid hk
 have LL1:=Lib.hid (show ws.length≤35184372088832 by omega)
 have LL2:=Lib.hid (show ws'.length≤35184372088832 by omega)
 clear ex ey hk
 go_enter Tryz.func199,Tryz.ntmps199
 go_wp2_with fail
 go_quiet (fail)
 generalize hq:w.drewN _=w1
 have HB1:=Lib.hid (show Below w.heap.size w w1 from by subst hq; exact zao _ _)
 have g1:w1.cell? ⟨b1,o1,none⟩=some (.bool false):=by subst hq; exact h1
 have g2:w1.cell? ⟨b1,o1+1,none⟩=some (.slice A ws.length c):=by subst hq; exact h2
 have g3:w1.cell? ⟨b2,o2,none⟩=some (.bool false):=by subst hq; exact k1
 have g4:w1.cell? ⟨b2,o2+1,none⟩=some (.slice A' ws'.length c'):=by subst hq; exact k2
 clear hq h1 h2 k1 k2
 go_wp2_with fail
 go_region_held3 (fun w'=>w'.cell? ⟨b1,o1,none⟩=some (.bool false)∧w'.cell? ⟨b1,o1+1,none⟩=some (.slice A ws.length c)∧w'.cell? ⟨b2,o2,none⟩=some (.bool false)∧w'.cell? ⟨b2,o2+1,none⟩=some (.slice A' ws'.length c'))
  (first|go_keep|exact ⟨g1,g2,g3,g4⟩|exact ⟨zaN g1 (bthen (zae w1) hb2) hu3 (hz.upd (Upd.of_below (bthen (bthen HB1.out (zae _)) hb2) 0 0 0)) (by omega),zaN g2 (bthen (zae w1) hb2) hu3 (hz.upd (Upd.of_below (bthen (bthen HB1.out (zae _)) hb2) 0 0 0)) (by omega),zaN g3 (bthen (zae w1) hb2) hu3 (hz.upd (Upd.of_below (bthen (bthen HB1.out (zae _)) hb2) 0 0 0)) (by omega),zaN g4 (bthen (zae w1) hb2) hu3 (hz.upd (Upd.of_below (bthen (bthen HB1.out (zae _)) hb2) 0 0 0)) (by omega)⟩|exact ⟨((bthen (zae w1) hb2).cell (World.block_lt_of_cell? _ _ g1)).trans g1,((bthen (zae w1) hb2).cell (World.block_lt_of_cell? _ _ g2)).trans g2,((bthen (zae w1) hb2).cell (World.block_lt_of_cell? _ _ g3)).trans g3,((bthen (zae w1) hb2).cell (World.block_lt_of_cell? _ _ g4)).trans g4⟩)
  ((first
   | (go_simp; go_at_call 233; refine (zdk A c ws A' c' ws' _ (h3.below (bthen HB1.out (zae _))) (k3.below (bthen HB1.out (zae _))) h4.wd k4.wd LL1.out LL2.out).mono ?_; rintro e w2 ⟨A2,c2,zs,rfl,hw2,hz2,hv2,hzl2,hb2⟩; have HV2:=Lib.hid hv2; clear hv2 hzl2)
   | (go_simp; go_at_call 187; refine (zaM b o false A2 c2 zs _ (hz.upd (Upd.of_below (bthen (bthen HB1.out (zae _)) hb2) 0 0 0)) hw2 hz2).mono ?_; rintro e w3 ⟨rfl,hx3,hu3⟩)))
 all_goals
  have hfin:sg false (val zs)=x+y:=by rw [HV2.out]; exact HK.out
  rw [hfin] at hx3
  go_wp2
  go_ret
  exact ⟨rfl,hx3,(((Upd.of_below HB1.out _ _ _).trans (Upd.of_below (zae _) _ _ _)).trans (Upd.of_below hb2 _ _ _)).trans hu3⟩
theorem add_true_false_ge (b o b1 o1 b2 o2:Nat) (x y:Int) (w:World) (hz:Slot w b o) (hx:IntAt w b1 o1 x) (hy:IntAt w b2 o2 y) (hd1:b1≠b∨o1+2≤o∨o+2≤o1) (hd2:b2≠b∨o2+2≤o∨o+2≤o2) {n:Nat} (hs:Bd n x) (ht:Bd n y) (hn:n≤big) (hx0:x<0) (hy0:0≤y) (hxy:x+y≤0) :
  Calls Tryz.prog 199 #[.pointer (some ⟨b,o,none⟩),.pointer (some ⟨b1,o1,none⟩),.pointer (some ⟨b2,o2,none⟩)] w fun e w'=>e = .returned (.pointer (some ⟨b,o,none⟩))∧IntAt w' b o (x+y)∧Upd w w' b o (o+2):=by
 obtain ⟨neg,A,c,ws,h1,h2,h3,h4⟩:=hx.out
 obtain ⟨neg',A',c',ws',k1,k2,k3,k4⟩:=hy.out
 have hl1:ws.length≤34359738368:=h4.small hs hn
 have hl2:ws'.length≤34359738368:=k4.small ht hn
 have ex:=h4.eq
 have ey:=k4.eq
 clear hs ht
 have hneg:neg=true:=h4.neg_iff.2 hx0
 have hneg':neg'=false:=by cases neg'; rfl; exact absurd (k4.neg_iff.1 rfl) (by omega)
 subst hneg; subst hneg'
 have hva:=h4.val_eq
 have hvb:=k4.val_eq
 have hk:sg true (val ws-val ws')=x+y:=by rw [ex,ey]; unfold sg; simp<;>omega
 have hle:val ws'≤val ws:=by omega
 have HK:=Lib.hid hk
 have HLE:=Lib.hid hle
 have HLL:=Lib.hid (show ws'.length≤ws.length from za0 h4.wd k4.wd k4.top hle)
 have LL1:=Lib.hid (show ws.length≤35184372088832 by omega)
 have LL2:=Lib.hid (show ws'.length≤35184372088832 by omega)
 clear ex ey hk hle hva hvb
 go_enter Tryz.func199,Tryz.ntmps199
 go_wp2_with fail
 go_quiet (fail)
 generalize hq:w.drewN _=w1
 have HB1:=Lib.hid (show Below w.heap.size w w1 from by subst hq; exact zao _ _)
 have g1:w1.cell? ⟨b1,o1,none⟩=some (.bool true):=by subst hq; exact h1
 have g2:w1.cell? ⟨b1,o1+1,none⟩=some (.slice A ws.length c):=by subst hq; exact h2
 have g3:w1.cell? ⟨b2,o2,none⟩=some (.bool false):=by subst hq; exact k1
 have g4:w1.cell? ⟨b2,o2+1,none⟩=some (.slice A' ws'.length c'):=by subst hq; exact k2
 clear hq h1 h2 k1 k2
 go_wp2_with fail
 go_region_held3 (fun w'=>w'.cell? ⟨b1,o1,none⟩=some (.bool true)∧w'.cell? ⟨b1,o1+1,none⟩=some (.slice A ws.length c)∧w'.cell? ⟨b2,o2,none⟩=some (.bool false)∧w'.cell? ⟨b2,o2+1,none⟩=some (.slice A' ws'.length c'))
  (first|go_keep|exact ⟨g1,g2,g3,g4⟩)
  ((first
   | (go_simp; go_at_call 230; refine (za1 A c ws A' c' ws' _ (h3.below (bthen HB1.out (zae _))) (k3.below (bthen HB1.out (zae _))) h4.wd k4.wd h4.top k4.top).mono ?_; rintro e w2 ⟨r,rfl,hr,hrb,⟨⟨nd,rfl⟩⟩⟩)))
 rename_i hHeld
 generalize hq:w1.drewN _=w2 at hHeld ⊢
 have HB2:=Lib.hid (show Below w1.heap.size w1 w2 from by subst hq; exact zao _ _)
 clear hq g1 g2 g3 g4
 obtain ⟨g1,g2,g3,g4⟩:=hHeld
 have hr0:=zbi hr
 have hr1:0≤r:=by have:=HLE.out; omega
 have HB12:=Lib.hid (bthen HB1.out HB2.out)
 clear hr hr0 HB1 HB2
 have HB1:=HB12
 clear HB12
 go_wp2_with fail
 go_region_held3 (fun w'=>w'.cell? ⟨b1,o1,none⟩=some (.bool true)∧w'.cell? ⟨b1,o1+1,none⟩=some (.slice A ws.length c)∧w'.cell? ⟨b2,o2,none⟩=some (.bool false)∧w'.cell? ⟨b2,o2+1,none⟩=some (.slice A' ws'.length c'))
  (first|go_keep|exact ⟨g1,g2,g3,g4⟩|exact ⟨zaN g1 (bthen (zae w2) hb2) hu3 (hz.upd (Upd.of_below (bthen (bthen HB1.out (zae _)) hb2) 0 0 0)) (by omega),zaN g2 (bthen (zae w2) hb2) hu3 (hz.upd (Upd.of_below (bthen (bthen HB1.out (zae _)) hb2) 0 0 0)) (by omega),zaN g3 (bthen (zae w2) hb2) hu3 (hz.upd (Upd.of_below (bthen (bthen HB1.out (zae _)) hb2) 0 0 0)) (by omega),zaN g4 (bthen (zae w2) hb2) hu3 (hz.upd (Upd.of_below (bthen (bthen HB1.out (zae _)) hb2) 0 0 0)) (by omega)⟩|exact ⟨((bthen (zae w2) hb2).cell (World.block_lt_of_cell? _ _ g1)).trans g1,((bthen (zae w2) hb2).cell (World.block_lt_of_cell? _ _ g2)).trans g2,((bthen (zae w2) hb2).cell (World.block_lt_of_cell? _ _ g3)).trans g3,((bthen (zae w2) hb2).cell (World.block_lt_of_cell? _ _ g4)).trans g4⟩)
  ((first
   | (go_simp; go_at_call 234; refine (zca A c ws A' c' ws' _ (h3.below (bthen HB1.out (zae _))) (k3.below (bthen HB1.out (zae _))) h4.wd k4.wd LL1.out HLE.out HLL.out).mono ?_; rintro e w4 ⟨A2,c2,zs,rfl,hw2,hz2,hv2,hzl2,hb2⟩; have HV2:=Lib.hid hv2; clear hv2 hzl2)
   | (go_simp; go_at_call 187; refine (zaM b o true A2 c2 zs _ (hz.upd (Upd.of_below (bthen (bthen HB1.out (zae _)) hb2) 0 0 0)) hw2 hz2).mono ?_; rintro e w3 ⟨rfl,hx3,hu3⟩)))
 all_goals
  have hfin:sg true (val zs)=x+y:=by rw [HV2.out]; exact HK.out
  rw [hfin] at hx3
  go_wp2
  go_ret
  exact ⟨rfl,hx3,(((Upd.of_below HB1.out _ _ _).trans (Upd.of_below (zae _) _ _ _)).trans (Upd.of_below hb2 _ _ _)).trans hu3⟩
theorem add_true_false_lt (b o b1 o1 b2 o2:Nat) (x y:Int) (w:World) (hz:Slot w b o) (hx:IntAt w b1 o1 x) (hy:IntAt w b2 o2 y) (hd1:b1≠b∨o1+2≤o∨o+2≤o1) (hd2:b2≠b∨o2+2≤o∨o+2≤o2) {n:Nat} (hs:Bd n x) (ht:Bd n y) (hn:n≤big) (hx0:x<0) (hy0:0≤y) (hxy:0<x+y) :
  Calls Tryz.prog 199 #[.pointer (some ⟨b,o,none⟩),.pointer (some ⟨b1,o1,none⟩),.pointer (some ⟨b2,o2,none⟩)] w fun e w'=>e = .returned (.pointer (some ⟨b,o,none⟩))∧IntAt w' b o (x+y)∧Upd w w' b o (o+2):=by
 obtain ⟨neg,A,c,ws,h1,h2,h3,h4⟩:=hx.out
 obtain ⟨neg',A',c',ws',k1,k2,k3,k4⟩:=hy.out
 have hl1:ws.length≤34359738368:=h4.small hs hn
 have hl2:ws'.length≤34359738368:=k4.small ht hn
 have ex:=h4.eq
 have ey:=k4.eq
 clear hs ht
 have hneg:neg=true:=h4.neg_iff.2 hx0
 have hneg':neg'=false:=by cases neg'; rfl; exact absurd (k4.neg_iff.1 rfl) (by omega)
 subst hneg; subst hneg'
 have hva:=h4.val_eq
 have hvb:=k4.val_eq
 have hk:sg false (val ws'-val ws)=x+y:=by rw [ex,ey]; unfold sg; simp<;>omega
 have hle:val ws<val ws':=by omega
 have HK:=Lib.hid hk
 have HLE:=Lib.hid hle
 have HLL:=Lib.hid (show ws.length≤ws'.length from za0 k4.wd h4.wd h4.top (by omega))
 have LL1:=Lib.hid (show ws.length≤35184372088832 by omega)
 have LL2:=Lib.hid (show ws'.length≤35184372088832 by omega)
 clear ex ey hk hle hva hvb
 go_enter Tryz.func199,Tryz.ntmps199
 go_wp2_with fail
 go_quiet (fail)
 generalize hq:w.drewN _=w1
 have HB1:=Lib.hid (show Below w.heap.size w w1 from by subst hq; exact zao _ _)
 have g1:w1.cell? ⟨b1,o1,none⟩=some (.bool true):=by subst hq; exact h1
 have g2:w1.cell? ⟨b1,o1+1,none⟩=some (.slice A ws.length c):=by subst hq; exact h2
 have g3:w1.cell? ⟨b2,o2,none⟩=some (.bool false):=by subst hq; exact k1
 have g4:w1.cell? ⟨b2,o2+1,none⟩=some (.slice A' ws'.length c'):=by subst hq; exact k2
 clear hq h1 h2 k1 k2
 go_wp2_with fail
 go_region_held3 (fun w'=>w'.cell? ⟨b1,o1,none⟩=some (.bool true)∧w'.cell? ⟨b1,o1+1,none⟩=some (.slice A ws.length c)∧w'.cell? ⟨b2,o2,none⟩=some (.bool false)∧w'.cell? ⟨b2,o2+1,none⟩=some (.slice A' ws'.length c'))
  (first|go_keep|exact ⟨g1,g2,g3,g4⟩)
  ((first
   | (go_simp; go_at_call 230; refine (za1 A c ws A' c' ws' _ (h3.below (bthen HB1.out (zae _))) (k3.below (bthen HB1.out (zae _))) h4.wd k4.wd h4.top k4.top).mono ?_; rintro e w2 ⟨r,rfl,hr,hrb,⟨⟨nd,rfl⟩⟩⟩)))
 rename_i hHeld
 generalize hq:w1.drewN _=w2 at hHeld ⊢
 have HB2:=Lib.hid (show Below w1.heap.size w1 w2 from by subst hq; exact zao _ _)
 clear hq g1 g2 g3 g4
 obtain ⟨g1,g2,g3,g4⟩:=hHeld
 have hr0:=zbi hr
 have hr1:r<0:=by have:=HLE.out; omega
 have HB12:=Lib.hid (bthen HB1.out HB2.out)
 clear hr hr0 HB1 HB2
 have HB1:=HB12
 clear HB12
 go_wp2_with fail
 go_region_held3 (fun w'=>w'.cell? ⟨b1,o1,none⟩=some (.bool true)∧w'.cell? ⟨b1,o1+1,none⟩=some (.slice A ws.length c)∧w'.cell? ⟨b2,o2,none⟩=some (.bool false)∧w'.cell? ⟨b2,o2+1,none⟩=some (.slice A' ws'.length c'))
  (first|go_keep|exact ⟨g1,g2,g3,g4⟩|exact ⟨zaN g1 (bthen (zae w2) hb2) hu3 (hz.upd (Upd.of_below (bthen (bthen HB1.out (zae _)) hb2) 0 0 0)) (by omega),zaN g2 (bthen (zae w2) hb2) hu3 (hz.upd (Upd.of_below (bthen (bthen HB1.out (zae _)) hb2) 0 0 0)) (by omega),zaN g3 (bthen (zae w2) hb2) hu3 (hz.upd (Upd.of_below (bthen (bthen HB1.out (zae _)) hb2) 0 0 0)) (by omega),zaN g4 (bthen (zae w2) hb2) hu3 (hz.upd (Upd.of_below (bthen (bthen HB1.out (zae _)) hb2) 0 0 0)) (by omega)⟩|exact ⟨((bthen (zae w2) hb2).cell (World.block_lt_of_cell? _ _ g1)).trans g1,((bthen (zae w2) hb2).cell (World.block_lt_of_cell? _ _ g2)).trans g2,((bthen (zae w2) hb2).cell (World.block_lt_of_cell? _ _ g3)).trans g3,((bthen (zae w2) hb2).cell (World.block_lt_of_cell? _ _ g4)).trans g4⟩)
  ((first
   | (go_simp; go_at_call 234; refine (zca A' c' ws' A c ws _ (k3.below (bthen HB1.out (zae _))) (h3.below (bthen HB1.out (zae _))) k4.wd h4.wd LL2.out (Int.le_of_lt HLE.out) HLL.out).mono ?_; rintro e w4 ⟨A2,c2,zs,rfl,hw2,hz2,hv2,hzl2,hb2⟩; have HV2:=Lib.hid hv2; clear hv2 hzl2)
   | (go_simp; go_at_call 187; refine (zaM b o false A2 c2 zs _ (hz.upd (Upd.of_below (bthen (bthen HB1.out (zae _)) hb2) 0 0 0)) hw2 hz2).mono ?_; rintro e w3 ⟨rfl,hx3,hu3⟩)))
 all_goals
  have hfin:sg false (val zs)=x+y:=by rw [HV2.out]; exact HK.out
  rw [hfin] at hx3
  go_wp2
  go_ret
  exact ⟨rfl,hx3,(((Upd.of_below HB1.out _ _ _).trans (Upd.of_below (zae _) _ _ _)).trans (Upd.of_below hb2 _ _ _)).trans hu3⟩
theorem add_false_true_ge (b o b1 o1 b2 o2:Nat) (x y:Int) (w:World) (hz:Slot w b o) (hx:IntAt w b1 o1 x) (hy:IntAt w b2 o2 y) (hd1:b1≠b∨o1+2≤o∨o+2≤o1) (hd2:b2≠b∨o2+2≤o∨o+2≤o2) {n:Nat} (hs:Bd n x) (ht:Bd n y) (hn:n≤big) (hx0:0≤x) (hy0:y<0) (hxy:0≤x+y) :
  Calls Tryz.prog 199 #[.pointer (some ⟨b,o,none⟩),.pointer (some ⟨b1,o1,none⟩),.pointer (some ⟨b2,o2,none⟩)] w fun e w'=>e = .returned (.pointer (some ⟨b,o,none⟩))∧IntAt w' b o (x+y)∧Upd w w' b o (o+2):=by
 obtain ⟨neg,A,c,ws,h1,h2,h3,h4⟩:=hx.out
 obtain ⟨neg',A',c',ws',k1,k2,k3,k4⟩:=hy.out
 have hl1:ws.length≤34359738368:=h4.small hs hn
 have hl2:ws'.length≤34359738368:=k4.small ht hn
 have ex:=h4.eq
 have ey:=k4.eq
 clear hs ht
 have hneg:neg=false:=by cases neg; rfl; exact absurd (h4.neg_iff.1 rfl) (by omega)
 have hneg':neg'=true:=k4.neg_iff.2 hy0
 subst hneg; subst hneg'
 have hva:=h4.val_eq
 have hvb:=k4.val_eq
 have hk:sg false (val ws-val ws')=x+y:=by rw [ex,ey]; unfold sg; simp<;>omega
 have hle:val ws'≤val ws:=by omega
 have HK:=Lib.hid hk
 have HLE:=Lib.hid hle
 have HLL:=Lib.hid (show ws'.length≤ws.length from za0 h4.wd k4.wd k4.top hle)
 have LL1:=Lib.hid (show ws.length≤35184372088832 by omega)
 have LL2:=Lib.hid (show ws'.length≤35184372088832 by omega)
 clear ex ey hk hle hva hvb
 go_enter Tryz.func199,Tryz.ntmps199
 go_wp2_with fail
 go_quiet (fail)
 generalize hq:w.drewN _=w1
 have HB1:=Lib.hid (show Below w.heap.size w w1 from by subst hq; exact zao _ _)
 have g1:w1.cell? ⟨b1,o1,none⟩=some (.bool false):=by subst hq; exact h1
 have g2:w1.cell? ⟨b1,o1+1,none⟩=some (.slice A ws.length c):=by subst hq; exact h2
 have g3:w1.cell? ⟨b2,o2,none⟩=some (.bool true):=by subst hq; exact k1
 have g4:w1.cell? ⟨b2,o2+1,none⟩=some (.slice A' ws'.length c'):=by subst hq; exact k2
 clear hq h1 h2 k1 k2
 go_wp2_with fail
 go_region_held3 (fun w'=>w'.cell? ⟨b1,o1,none⟩=some (.bool false)∧w'.cell? ⟨b1,o1+1,none⟩=some (.slice A ws.length c)∧w'.cell? ⟨b2,o2,none⟩=some (.bool true)∧w'.cell? ⟨b2,o2+1,none⟩=some (.slice A' ws'.length c'))
  (first|go_keep|exact ⟨g1,g2,g3,g4⟩)
  ((first
   | (go_simp; go_at_call 230; refine (za1 A c ws A' c' ws' _ (h3.below (bthen HB1.out (zae _))) (k3.below (bthen HB1.out (zae _))) h4.wd k4.wd h4.top k4.top).mono ?_; rintro e w2 ⟨r,rfl,hr,hrb,⟨⟨nd,rfl⟩⟩⟩)))
 rename_i hHeld
 generalize hq:w1.drewN _=w2 at hHeld ⊢
 have HB2:=Lib.hid (show Below w1.heap.size w1 w2 from by subst hq; exact zao _ _)
 clear hq g1 g2 g3 g4
 obtain ⟨g1,g2,g3,g4⟩:=hHeld
 have hr0:=zbi hr
 have hr1:0≤r:=by have:=HLE.out; omega
 have HB12:=Lib.hid (bthen HB1.out HB2.out)
 clear hr hr0 HB1 HB2
 have HB1:=HB12
 clear HB12
 go_wp2_with fail
 go_region_held3 (fun w'=>w'.cell? ⟨b1,o1,none⟩=some (.bool false)∧w'.cell? ⟨b1,o1+1,none⟩=some (.slice A ws.length c)∧w'.cell? ⟨b2,o2,none⟩=some (.bool true)∧w'.cell? ⟨b2,o2+1,none⟩=some (.slice A' ws'.length c'))
  (first|go_keep|exact ⟨g1,g2,g3,g4⟩|exact ⟨zaN g1 (bthen (zae w2) hb2) hu3 (hz.upd (Upd.of_below (bthen (bthen HB1.out (zae _)) hb2) 0 0 0)) (by omega),zaN g2 (bthen (zae w2) hb2) hu3 (hz.upd (Upd.of_below (bthen (bthen HB1.out (zae _)) hb2) 0 0 0)) (by omega),zaN g3 (bthen (zae w2) hb2) hu3 (hz.upd (Upd.of_below (bthen (bthen HB1.out (zae _)) hb2) 0 0 0)) (by omega),zaN g4 (bthen (zae w2) hb2) hu3 (hz.upd (Upd.of_below (bthen (bthen HB1.out (zae _)) hb2) 0 0 0)) (by omega)⟩|exact ⟨((bthen (zae w2) hb2).cell (World.block_lt_of_cell? _ _ g1)).trans g1,((bthen (zae w2) hb2).cell (World.block_lt_of_cell? _ _ g2)).trans g2,((bthen (zae w2) hb2).cell (World.block_lt_of_cell? _ _ g3)).trans g3,((bthen (zae w2) hb2).cell (World.block_lt_of_cell? _ _ g4)).trans g4⟩)
  ((first
   | (go_simp; go_at_call 234; refine (zca A c ws A' c' ws' _ (h3.below (bthen HB1.out (zae _))) (k3.below (bthen HB1.out (zae _))) h4.wd k4.wd LL1.out HLE.out HLL.out).mono ?_; rintro e w4 ⟨A2,c2,zs,rfl,hw2,hz2,hv2,hzl2,hb2⟩; have HV2:=Lib.hid hv2; clear hv2 hzl2)
   | (go_simp; go_at_call 187; refine (zaM b o false A2 c2 zs _ (hz.upd (Upd.of_below (bthen (bthen HB1.out (zae _)) hb2) 0 0 0)) hw2 hz2).mono ?_; rintro e w3 ⟨rfl,hx3,hu3⟩)))
 all_goals
  have hfin:sg false (val zs)=x+y:=by rw [HV2.out]; exact HK.out
  rw [hfin] at hx3
  go_wp2
  go_ret
  exact ⟨rfl,hx3,(((Upd.of_below HB1.out _ _ _).trans (Upd.of_below (zae _) _ _ _)).trans (Upd.of_below hb2 _ _ _)).trans hu3⟩
theorem add_false_true_lt (b o b1 o1 b2 o2:Nat) (x y:Int) (w:World) (hz:Slot w b o) (hx:IntAt w b1 o1 x) (hy:IntAt w b2 o2 y) (hd1:b1≠b∨o1+2≤o∨o+2≤o1) (hd2:b2≠b∨o2+2≤o∨o+2≤o2) {n:Nat} (hs:Bd n x) (ht:Bd n y) (hn:n≤big) (hx0:0≤x) (hy0:y<0) (hxy:x+y<0) :
  Calls Tryz.prog 199 #[.pointer (some ⟨b,o,none⟩),.pointer (some ⟨b1,o1,none⟩),.pointer (some ⟨b2,o2,none⟩)] w fun e w'=>e = .returned (.pointer (some ⟨b,o,none⟩))∧IntAt w' b o (x+y)∧Upd w w' b o (o+2):=by
 obtain ⟨neg,A,c,ws,h1,h2,h3,h4⟩:=hx.out
 obtain ⟨neg',A',c',ws',k1,k2,k3,k4⟩:=hy.out
 have hl1:ws.length≤34359738368:=h4.small hs hn
 have hl2:ws'.length≤34359738368:=k4.small ht hn
 have ex:=h4.eq
 have ey:=k4.eq
 clear hs ht
 have hneg:neg=false:=by cases neg; rfl; exact absurd (h4.neg_iff.1 rfl) (by omega)
 have hneg':neg'=true:=k4.neg_iff.2 hy0
 subst hneg; subst hneg'
 have hva:=h4.val_eq
 have hvb:=k4.val_eq
 have hk:sg true (val ws'-val ws)=x+y:=by rw [ex,ey]; unfold sg; simp<;>omega
 have hle:val ws<val ws':=by omega
 have HK:=Lib.hid hk
 have HLE:=Lib.hid hle
 have HLL:=Lib.hid (show ws.length≤ws'.length from za0 k4.wd h4.wd h4.top (by omega))
 have LL1:=Lib.hid (show ws.length≤35184372088832 by omega)
 have LL2:=Lib.hid (show ws'.length≤35184372088832 by omega)
 clear ex ey hk hle hva hvb
 go_enter Tryz.func199,Tryz.ntmps199
 go_wp2_with fail
 go_quiet (fail)
 generalize hq:w.drewN _=w1
 have HB1:=Lib.hid (show Below w.heap.size w w1 from by subst hq; exact zao _ _)
 have g1:w1.cell? ⟨b1,o1,none⟩=some (.bool false):=by subst hq; exact h1
 have g2:w1.cell? ⟨b1,o1+1,none⟩=some (.slice A ws.length c):=by subst hq; exact h2
 have g3:w1.cell? ⟨b2,o2,none⟩=some (.bool true):=by subst hq; exact k1
 have g4:w1.cell? ⟨b2,o2+1,none⟩=some (.slice A' ws'.length c'):=by subst hq; exact k2
 clear hq h1 h2 k1 k2
 go_wp2_with fail
 go_region_held3 (fun w'=>w'.cell? ⟨b1,o1,none⟩=some (.bool false)∧w'.cell? ⟨b1,o1+1,none⟩=some (.slice A ws.length c)∧w'.cell? ⟨b2,o2,none⟩=some (.bool true)∧w'.cell? ⟨b2,o2+1,none⟩=some (.slice A' ws'.length c'))
  (first|go_keep|exact ⟨g1,g2,g3,g4⟩)
  ((first
   | (go_simp; go_at_call 230; refine (za1 A c ws A' c' ws' _ (h3.below (bthen HB1.out (zae _))) (k3.below (bthen HB1.out (zae _))) h4.wd k4.wd h4.top k4.top).mono ?_; rintro e w2 ⟨r,rfl,hr,hrb,⟨⟨nd,rfl⟩⟩⟩)))
 rename_i hHeld
 generalize hq:w1.drewN _=w2 at hHeld ⊢
 have HB2:=Lib.hid (show Below w1.heap.size w1 w2 from by subst hq; exact zao _ _)
 clear hq g1 g2 g3 g4
 obtain ⟨g1,g2,g3,g4⟩:=hHeld
 have hr0:=zbi hr
 have hr1:r<0:=by have:=HLE.out; omega
 have HB12:=Lib.hid (bthen HB1.out HB2.out)
 clear hr hr0 HB1 HB2
 have HB1:=HB12
 clear HB12
 go_wp2_with fail
 go_region_held3 (fun w'=>w'.cell? ⟨b1,o1,none⟩=some (.bool false)∧w'.cell? ⟨b1,o1+1,none⟩=some (.slice A ws.length c)∧w'.cell? ⟨b2,o2,none⟩=some (.bool true)∧w'.cell? ⟨b2,o2+1,none⟩=some (.slice A' ws'.length c'))
  (first|go_keep|exact ⟨g1,g2,g3,g4⟩|exact ⟨zaN g1 (bthen (zae w2) hb2) hu3 (hz.upd (Upd.of_below (bthen (bthen HB1.out (zae _)) hb2) 0 0 0)) (by omega),zaN g2 (bthen (zae w2) hb2) hu3 (hz.upd (Upd.of_below (bthen (bthen HB1.out (zae _)) hb2) 0 0 0)) (by omega),zaN g3 (bthen (zae w2) hb2) hu3 (hz.upd (Upd.of_below (bthen (bthen HB1.out (zae _)) hb2) 0 0 0)) (by omega),zaN g4 (bthen (zae w2) hb2) hu3 (hz.upd (Upd.of_below (bthen (bthen HB1.out (zae _)) hb2) 0 0 0)) (by omega)⟩|exact ⟨((bthen (zae w2) hb2).cell (World.block_lt_of_cell? _ _ g1)).trans g1,((bthen (zae w2) hb2).cell (World.block_lt_of_cell? _ _ g2)).trans g2,((bthen (zae w2) hb2).cell (World.block_lt_of_cell? _ _ g3)).trans g3,((bthen (zae w2) hb2).cell (World.block_lt_of_cell? _ _ g4)).trans g4⟩)
  ((first
   | (go_simp; go_at_call 234; refine (zca A' c' ws' A c ws _ (k3.below (bthen HB1.out (zae _))) (h3.below (bthen HB1.out (zae _))) k4.wd h4.wd LL2.out (Int.le_of_lt HLE.out) HLL.out).mono ?_; rintro e w4 ⟨A2,c2,zs,rfl,hw2,hz2,hv2,hzl2,hb2⟩; have HV2:=Lib.hid hv2; clear hv2 hzl2)
   | (go_simp; go_at_call 187; refine (zaM b o true A2 c2 zs _ (hz.upd (Upd.of_below (bthen (bthen HB1.out (zae _)) hb2) 0 0 0)) hw2 hz2).mono ?_; rintro e w3 ⟨rfl,hx3,hu3⟩)))
 all_goals
  have hfin:sg true (val zs)=x+y:=by rw [HV2.out]; exact HK.out
  rw [hfin] at hx3
  go_wp2
  go_ret
  exact ⟨rfl,hx3,(((Upd.of_below HB1.out _ _ _).trans (Upd.of_below (zae _) _ _ _)).trans (Upd.of_below hb2 _ _ _)).trans hu3⟩
theorem add_calls (b o b1 o1 b2 o2:Nat) (x y:Int) (w:World) (hz:Slot w b o) (hx:IntAt w b1 o1 x) (hy:IntAt w b2 o2 y) {n:Nat} (hs:Bd n x) (ht:Bd n y) (hn:n≤big) (hd1:b1≠b∨o1+2≤o∨o+2≤o1) (hd2:b2≠b∨o2+2≤o∨o+2≤o2) :
  Calls Tryz.prog 199 #[.pointer (some ⟨b,o,none⟩),.pointer (some ⟨b1,o1,none⟩),.pointer (some ⟨b2,o2,none⟩)] w fun e w'=>e = .returned (.pointer (some ⟨b,o,none⟩))∧IntAt w' b o (x+y)∧Upd w w' b o (o+2):=by
 by_cases hx0:x<0
 ·by_cases hy0:y<0
  ·exact add_same_true b o b1 o1 b2 o2 x y w hz hx hy hd1 hd2 hs ht hn hx0 hy0
  ·by_cases hxy:x+y≤0
   ·exact add_true_false_ge b o b1 o1 b2 o2 x y w hz hx hy hd1 hd2 hs ht hn hx0 (by omega) hxy
   ·exact add_true_false_lt b o b1 o1 b2 o2 x y w hz hx hy hd1 hd2 hs ht hn hx0 (by omega) (by omega)
 ·by_cases hy0:y<0
  ·by_cases hxy:0≤x+y
   ·exact add_false_true_ge b o b1 o1 b2 o2 x y w hz hx hy hd1 hd2 hs ht hn (by omega) hy0 hxy
   ·exact add_false_true_lt b o b1 o1 b2 o2 x y w hz hx hy hd1 hd2 hs ht hn (by omega) hy0 (by omega)
  ·exact add_same_false b o b1 o1 b2 o2 x y w hz hx hy hd1 hd2 hs ht hn (by omega) (by omega)
end Go.Proofs.P9
end
section
set_option linter.unusedVariables false
namespace Go.Proofs.P9
open Go.RowKit Go.Proofs.W9.Wa
theorem zc6 {zs:List Int} {j N:Nat} (hj:j<N) (hN:N≤zs.length) (v:Int):val ((zs.set j v).take N)=val (zs.take N)+4294967296^j*(v-rd zs (j:Int)):=by
  have hjl:j<zs.length:=by omega
  have e1:zs.take N=zs.take j++rd zs (j:Int) :: (zs.take N).drop (j+1):=by
    have h1:zs.take N=(zs.take N).take (j+1)++(zs.take N).drop (j+1):=(List.take_append_drop _ _).symm
    rw [List.take_take,Nat.min_eq_left (by omega),List.take_succ_eq_append_getElem hjl] at h1
    have e:rd zs (j:Int)=zs[j]:=by rw [←zaX,List.getD_eq_getElem?_getD,List.getElem?_eq_getElem hjl]; rfl
    rw [e]
    rw [List.append_assoc] at h1
    exact h1
  have e2:(zs.set j v).take N=zs.take j++v :: (zs.take N).drop (j+1):=by
    rw [List.take_set]
    conv=>lhs; rw [e1]
    rw [List.set_append_right _ _ (by rw [List.length_take]; omega),List.length_take,Nat.min_eq_left (by omega),Nat.sub_self,List.set_cons_zero]
  rw [e2]
  conv=>rhs; rw [e1]
  rw [zba,zba]
  simp only [val,List.length_take,Nat.min_eq_left (show j≤zs.length by omega)]
  grind
theorem prod_bd {x y:Int} (hx:0≤x∧x<4294967296) (hy:0≤y∧y<4294967296):0≤x*y∧x*y≤18446744065119617025:=by
  refine ⟨Int.mul_nonneg hx.1 hy.1,?_⟩
  have:=Int.mul_le_mul (show x≤4294967295 by omega) (show y≤4294967295 by omega) hy.1 (by decide)
  simpa using this
theorem mul_step {T V P Pi x y c z s yt:Int} (h:T+P*c=V+Pi*x*yt) (hs:s=c+(x*y+z)):T+P*(s%4294967296-z)+P*4294967296*(s/4294967296)=V+Pi*x*yt+P*(x*y):=by
  have e:s%4294967296+4294967296*(s/4294967296)=s:=Int.emod_add_mul_ediv s 4294967296
  have e2:P*4294967296*(s/4294967296)=P*(s-s%4294967296):=by rw [show s-s%4294967296=4294967296*(s/4294967296) by omega]; rw [Int.mul_assoc]
  rw [e2,←h,hs]
  grind
theorem zbj (b o b1 o1 b2 o2:Nat) (x y:Int) (w:World) (hz:Slot w b o) (hx:IntAt w b1 o1 x) (hy:IntAt w b2 o2 y) {n:Nat} (hs:Bd n x) (ht:Bd n y) (hn:n≤big) :
    Calls Tryz.prog 200 #[.pointer (some ⟨b,o,none⟩),.pointer (some ⟨b1,o1,none⟩),.pointer (some ⟨b2,o2,none⟩)] w fun e w'=>e = .returned (.pointer (some ⟨b,o,none⟩))∧IntAt w' b o (x*y)∧Upd w w' b o (o+2):=by
  obtain ⟨neg,A,c,xs,h1,h2,h3,h4⟩:=hx.out
  obtain ⟨neg',A',c',ys,k1,k2,k3,k4⟩:=hy.out
  have hl1:xs.length≤34359738368:=h4.small hs hn
  have hl2:ys.length≤34359738368:=k4.small ht hn
  have hlt1:=hx.lt
  have hlt2:=hy.lt
  have hk:sg (!(neg == neg')) (val xs*val ys)=x*y:=by
    rw [h4.eq,k4.eq]; unfold sg; cases neg<;>cases neg'<;>simp [Int.neg_mul,Int.mul_neg]
  have HK:=Lib.hid hk
  clear hs ht hk
  have hmk:=zb8 (P:=Tryz.prog) 103 171 .u32 4 Tryz.underlying103 zdb (by decide) (xs.length+ys.length) (by omega)
  have hown:=zcW w w.heap.size 171 .u32 (xs.length+ys.length) (Nat.le_refl _) (by omega)
  have HOWN:=Lib.hid hown
  clear hown
  rw [Int.natCast_add] at hmk
  have hwr:IntKind.i64.wrap ((xs.length:Int)+ys.length)=(xs.length:Int)+ys.length:=IntWalk.i64_in _ (by omega)
  go_enter Tryz.func200,Tryz.ntmps200
  go_wp2_with fail
  go_region_held3 (fun w'=>w'.cell? ⟨b1,o1+1,none⟩=some (.slice A xs.length c)∧w'.cell? ⟨b2,o2+1,none⟩=some (.slice A' ys.length c'))
    (first|go_keep|exact ⟨h2,k2⟩)
    ((first|fail))
  clear hmk hwr
  rename_i hHeld
  clear hHeld
  generalize hq:(w.alloc _).drew=w0
  have HB0:=Lib.hid (show Below w.heap.size w w0 from by subst hq; exact bthen (zaa (Below.refl _ _) _) (zae _))
  have HOW0:=Lib.hid (show w0.ownsRow w.heap.size 171 1 (.slice (some ⟨w.heap.size,0,none⟩) (xs.length+ys.length) (xs.length+ys.length)) (xs.length+ys.length) (nums .u32 (List.replicate (xs.length+ys.length) 0)) from by subst hq; exact HOWN.out)
  have j2:=(HB0.out.cell (p:=⟨b1,o1+1,none⟩) hlt1).trans h2
  have j4:=(HB0.out.cell (p:=⟨b2,o2+1,none⟩) hlt2).trans k2
  clear hq HOWN
  go_wp2
  go_loopw [30] (fun vi wr=>∃ (i:Nat) (zs:List Int),i≤xs.length∧vi = .int .i64 i∧zs.length=xs.length+ys.length∧Wd zs∧OwnW wr w.heap.size (.slice (some ⟨w.heap.size,0,none⟩) (xs.length+ys.length) (xs.length+ys.length)) zs∧Below w.heap.size w wr ∧
      val (zs.take (i+ys.length))=val (xs.take i)*val ys) (fun vi _=>xs.length-(intOf vi).toNat)
  case atStart=>exact ⟨0,List.replicate (xs.length+ys.length) 0,by omega,rfl,by simp,zch _,by unfold OwnW; rw [List.length_replicate]; exact HOW0.out,HB0.out,by rw [List.take_replicate,val_zeros]; simp [val]⟩
  case round =>
    obtain ⟨i,zs,hi,rfl,hzl,hzd,hO,hB,hv⟩:=hrel
    have HV:=Lib.hid hv
    have HO:=Lib.hid hO
    have HZL:=Lib.hid hzl
    clear hv hO hzl j2 j4
    have m1:=(hB.cell (p:=⟨b1,o1,none⟩) hlt1).trans h1
    have m2:=(hB.cell (p:=⟨b1,o1+1,none⟩) hlt1).trans h2
    have m3:=(hB.cell (p:=⟨b2,o2,none⟩) hlt2).trans k1
    have m4:=(hB.cell (p:=⟨b2,o2+1,none⟩) hlt2).trans k2
    by_cases hil:i<xs.length
    · obtain ⟨ad,rfl⟩:=h3.ptr (by omega)
      have hcx:=(h3.below hB).cell (j:=i) hil
      have hbx:=h4.wd.rd (i:Int)
      rw [zaX] at hcx
      have hvx:=zaw (xs:=xs) hil
      have HVX:=Lib.hid hvx
      clear hvx
      generalize rd xs (i:Int)=x0 at hcx hbx HVX
      have hbx':=hbx
      obtain ⟨hbx0,hbx1⟩:=hbx
      go_wp2
      obtain ⟨wo,rfl⟩:∃ wo:World,wo=wr:=⟨_,rfl⟩
      go_loopw [10,40] (fun vc vk wr=>∃ (k:Nat) (cc:Int) (z2:List Int),k≤ys.length∧0≤cc∧cc<4294967296∧vc = .int .u64 cc∧vk = .int .i64 k∧z2.length=xs.length+ys.length∧Wd z2∧OwnW wr w.heap.size (.slice (some ⟨w.heap.size,0,none⟩) (xs.length+ys.length) (xs.length+ys.length)) z2∧Below w.heap.size w wr ∧
          val (z2.take (i+ys.length))+4294967296^(i+k)*cc=val (xs.take i)*val ys+4294967296^i*x0*val (ys.take k)) (fun _ vk _=>ys.length-(intOf vk).toNat)
      case atStart=>exact ⟨0,0,zs,by omega,by omega,by omega,rfl,rfl,HZL.out,hzd,HO.out,hB,by rw [HV.out]; simp [val]⟩
      case round =>
        obtain ⟨k,cc,z2,hk,hc0,hc1,rfl,rfl,hzl2,hzd2,hO2,hB2,hv2⟩:=hrel
        have HV2:=Lib.hid hv2
        have HZL2:=Lib.hid hzl2
        have HO2:=Lib.hid hO2
        clear hv2 hO2 hzl2 m1 m2 m3 m4 hcx
        have m1:=(hB2.cell (p:=⟨b1,o1,none⟩) hlt1).trans h1
        have m2:=(hB2.cell (p:=⟨b1,o1+1,none⟩) hlt1).trans h2
        have m3:=(hB2.cell (p:=⟨b2,o2,none⟩) hlt2).trans k1
        have m4:=(hB2.cell (p:=⟨b2,o2+1,none⟩) hlt2).trans k2
        have HOA:=Lib.hid (show wr.ownsRow w.heap.size 171 1 (.slice (some ⟨w.heap.size,0,none⟩) (xs.length+ys.length) (xs.length+ys.length)) (xs.length+ys.length) (nums .u32 z2) by have:=HO2.out; unfold OwnW at this; rw [HZL2.out] at this; exact this)
        by_cases hkl:k<ys.length
        · obtain ⟨ad',rfl⟩:=k3.ptr (by omega)
          have hcy:=(k3.below hB2).cell (j:=k) hkl
          have hby:=k4.wd.rd (k:Int)
          rw [zaX] at hcy
          have hvy:=zaw (xs:=ys) hkl
          have HVY:=Lib.hid hvy
          clear hvy
          generalize rd ys (k:Int)=y0 at hcy hby HVY
          have hp:=prod_bd hbx' hby
          obtain ⟨hp0,hp1⟩:=hp
          obtain ⟨hby0,hby1⟩:=hby
          obtain ⟨hs1,hs2⟩:=zb6 HOA.out ((i+k:Nat):Int) (by omega) (by omega)
          have hst:=zbc HOA.out ((i+k:Nat):Int) ((cc+(x0*y0+rd z2 ((i+k:Nat):Int)))%4294967296)
          have hbz:=hzd2.rd ((i+k:Nat):Int)
          have hvs:=zc6 (zs:=z2) (j:=i+k) (N:=i+ys.length) (by omega) (by rw [HZL2.out]; omega) ((cc+(x0*y0+rd z2 ((i+k:Nat):Int)))%4294967296)
          rw [Int.toNat_natCast] at hs1 hs2 hst
          have HST:=Lib.hid hst
          have HVS:=Lib.hid hvs
          clear hst hvs
          generalize rd z2 ((i+k:Nat):Int)=z0 at hs1 hbz HVS HST
          obtain ⟨hbz0,hbz1⟩:=hbz
          have fin:Wd (z2.set (i+k) ((cc+(x0*y0+z0))%4294967296))∧OwnW (wr.setCell ⟨w.heap.size,i+k,none⟩ (.int .u32 ((cc+(x0*y0+z0))%4294967296))) w.heap.size (.slice (some ⟨w.heap.size,0,none⟩) (xs.length+ys.length) (xs.length+ys.length)) (z2.set (i+k) ((cc+(x0*y0+z0))%4294967296))∧Below w.heap.size w (wr.setCell ⟨w.heap.size,i+k,none⟩ (.int .u32 ((cc+(x0*y0+z0))%4294967296))) ∧
              val ((z2.set (i+k) ((cc+(x0*y0+z0))%4294967296)).take (i+ys.length))+4294967296^(i+(k+1))*((cc+(x0*y0+z0))/4294967296)=val (xs.take i)*val ys+4294967296^i*x0*val (ys.take (k+1)):=by
            refine ⟨zbX hzd2 _ (by omega) (by omega),?_,hB2.setCell (Nat.le_refl _) _,?_⟩
            · unfold OwnW
              rw [List.length_set,HZL2.out]
              exact HST.out.1
            · rw [HVS.out,HVY.out,←Nat.add_assoc,Int.pow_succ,mul_step HV2.out rfl,Int.pow_add]
              grind
          have FIN:=Lib.hid fin
          clear fin
          go_wp2
          go_roundw
          case rel =>
            obtain ⟨f1,f2,f3,f4⟩:=FIN.out
            exact ⟨k+1,(cc+(x0*y0+z0))/4294967296,_,by omega,by omega,by omega,rfl,by go_num,by rw [List.length_set,HZL2.out],f1,f2,f3,f4⟩
          case measure=>simp [intOf]; omega
        · obtain rfl:k=ys.length:=by omega
          obtain ⟨hs1,hs2⟩:=zb6 HOA.out ((i+ys.length:Nat):Int) (by omega) (by omega)
          have hst:=zbc HOA.out ((i+ys.length:Nat):Int) cc
          rw [Int.toNat_natCast] at hs1 hs2 hst
          have HST:=Lib.hid hst
          clear hst
          have fin:OwnW (wr.setCell ⟨w.heap.size,i+ys.length,none⟩ (.int .u32 cc)) w.heap.size (.slice (some ⟨w.heap.size,0,none⟩) (xs.length+ys.length) (xs.length+ys.length)) (z2.set (i+ys.length) cc) ∧
              val ((z2.set (i+ys.length) cc).take (i+1+ys.length))=val (xs.take (i+1))*val ys:=by
            refine ⟨?_,?_⟩
            · unfold OwnW
              rw [List.length_set,HZL2.out]
              exact HST.out.1
            · have h:=HV2.out
              rw [List.take_length] at h
              rw [show i+1+ys.length=i+ys.length+1 by omega,zbh (by rw [HZL2.out]; omega),h,HVX.out]
              grind
          have FIN:=Lib.hid fin
          clear fin
          go_wp2
          go_roundw
          case rel=>exact ⟨i+1,_,by omega,by go_num,by rw [List.length_set,HZL2.out],zbX hzd2 _ hc0 hc1,FIN.out.1,hB2.setCell (Nat.le_refl _) _,FIN.out.2⟩
          case measure=>simp [intOf]; omega
    · obtain rfl:i=xs.length:=by omega
      obtain ⟨A2,c2,he,hw3⟩:=HO.out.wat
      have hfin:sg (!(neg == neg')) (val zs)=x*y:=by
        have h:=HV.out
        rw [List.take_length,List.take_of_length_le (by rw [HZL.out]; omega)] at h
        rw [h]; exact HK.out
      injection he with e1 e2 e3
      subst e1; subst e3
      rw [←HZL.out]
      rw [←HZL.out] at hw3
      have HF:=Lib.hid hfin
      clear hfin e2
      go_wp2_with fail
      go_still_tail 11,(by kernel_rfl)
      change wpList _ _ _ _ _ wr.drew
      go_wp2_with fail
      refine (zaM b o (!(neg == neg')) _ _ zs _ (hz.upd (Upd.of_below (bthen hB (zae _)) 0 0 0)) (hw3.below (zae _)) hzd).mono ?_
      rintro e w3 ⟨rfl,hx3,hu3⟩
      rw [HF.out] at hx3
      go_wp2
      go_ret
      exact ⟨rfl,hx3,(Upd.of_below (bthen hB (zae _)) _ _ _).trans hu3⟩
end Go.Proofs.P9
end
section
namespace Go.Proofs.P9
open Go.RowKit Go.Proofs.W9.Wa Go.Proofs.W9.Wb Go.Proofs.W9.Wc
attribute [local go_sem] zaC zaB zaL zaK zaz zay zaE zaD
set_option linter.unusedVariables false
set_option linter.unusedSimpArgs false
def ample_small.l0:Nat→List Int→Int→List Int→Int→Int→Option (List Int×Int)
 | 0,_,_,_,_,_=>none
 | k+1,x0,x1,x6,x7,x8=>if x8≥0 then (if 0≤x8 then (if x8<(x0.length:Int) then (if (IntKind.u64.wrap (x1))=0 then (none) else (if x8<(x6.length:Int) then (ample_small.l0 k x0 x1 (x6.set (x8:Int).toNat ((IntKind.u64.wrap (Int.tdiv (Go.bits .or .u64 (IntKind.u64.wrap (x7*4294967296)) (IntKind.u64.wrap (rd x0 x8))) (IntKind.u64.wrap (x1))))%4294967296)) (Int.tmod (Go.bits .or .u64 (IntKind.u64.wrap (x7*4294967296)) (IntKind.u64.wrap (rd x0 x8))) (IntKind.u64.wrap (x1))) (wrap64 (x8-1))) else (none))) else (none)) else (none)) else (some (x6,(x7)%4294967296))
def ample_small.f (k:Nat) (l0:List Int) (a1:Int):Option (List Int×Int):=if 0≤(l0.length:Int) then (if ((l0.length:Int):Int).toNat≤70368744177664 then (ample_small.l0 k l0 a1 (List.replicate ((l0.length:Int):Int).toNat 0) 0 (wrap64 ((l0.length:Int)-1))) else (none)) else (none)
theorem ample_small.calls (k : Nat) (A0 : Option Addr) (c0 : Nat) (l0 : List Int) (a1 : Int) (r1 : List Int) (r2 : Int) (w : World) (hr0 : Kd.C (Kd.int .u32) w A0 l0.length l0) (hc0 : l0.length ≤ c0) (h : ample_small.f k l0 a1 = some (r1, r2)) :
  Calls Tryz.prog 189 #[.slice A0 l0.length c0,.int .u32 a1] w fun e w'=>∃ v0_:Value,e = .returned (.tuple #[v0_,.int .u32 r2])∧Kd.R (Kd.int .u32) 171 w' w.heap.size (fun _=>True) v0_ r1∧Below w.heap.size w w':=by
 have HR0:=Aside0.mk hr0
 have HC0:=Aside0.mk hc0
 clear hr0 hc0
 have HB:=Aside0.mk (Below.refl w.heap.size w)
 have H:(if 0≤(l0.length:Int) then (if ((l0.length:Int):Int).toNat≤70368744177664 then (ample_small.l0 k l0 a1 (List.replicate ((l0.length:Int):Int).toNat 0) 0 (wrap64 ((l0.length:Int)-1))) else (none)) else (none))=some (r1,r2):=h
 clear h
 by_cases c3:0≤(l0.length:Int)
 ·rw [if_pos c3] at H
  have c3b0:=eq_true c3
  have c3b1:decide (0≤(l0.length:Int))=true:=decide_eq_true c3
  clear c3
  by_cases c4:((l0.length:Int):Int).toNat≤70368744177664
  ·rw [if_pos c4] at H
   have c4b0:=eq_true c4
   have c4b1:decide (((l0.length:Int):Int).toNat≤70368744177664)=true:=decide_eq_true c4
   clear c4
   obtain ⟨y114,hy114⟩:∃ y_:List Int,y_=(List.replicate ((l0.length:Int):Int).toNat 0):=⟨_,rfl⟩
   replace H:(ample_small.l0 k l0 a1 y114 0 (wrap64 ((l0.length:Int)-1)))=some (r1,r2):=by first|(rw [hy114]; with_reducible exact H)|(have H2_:=(Option.bind_some _ _).symm.trans H; rw [hy114]; with_reducible exact H2_)|(have H2_:=(Option.bind_some _ _).symm.trans H; with_reducible exact H2_)|with_reducible exact H|(rw [hy114]; exact H)|exact H
   have Ny114:=Aside0.mk hy114
   clear hy114
   have H':=Aside0.mk H
   clear H
   go_enter Tryz.func189,Tryz.ntmps189
   go_wp2_with (first|((with_reducible refine zaO (N:=11) rfl ?_); refine Kd.R_make (Kd.int .u32) _ 171 rfl (N:=11) rfl 103 _ _ rfl (l0.length:Int) rfl rfl Tryz.underlying103 (.int .u32 0) 4 info171 rfl (by decide) (by omega) 0 (ok:=fun _=>True) (okp:=fun _=>True) rfl (fun _ hk=>hk) trivial (of_decide_eq_true (by first|(with_reducible assumption)|assumption)) (Nat.le_trans (Nat.mul_le_mul_right _ (of_decide_eq_true (by first|(with_reducible assumption)|assumption):(l0.length:Int).toNat≤70368744177664)) (by omega)) (Below.refl _ _) (Nat.le_refl _) ?_; intro v115 w5 ho6 hb hg_ hnew_; clear hg_ hnew_; (first|rw [←Ny114.out] at ho6|(simp only [Int.reduceToNat] at ho6; rw [←Ny114.out] at ho6)); have n0_:=Aside0.mk (Kd.R_lower ho6 (zap (by repeat (first|(with_reducible first|exact HB.out|apply zaa|apply zab|apply zad)|exact HB.out)))); have n1_:=Aside0.mk (zam (by repeat (first|(with_reducible first|exact HB.out|apply zaa|apply zab|apply zad)|exact HB.out)) hb); clear HB; have HO116:=n0_; have HB:=n1_; clear n0_ n1_; clear hb ho6))
   go_loopg [7,8] k (fun kq v7 v8 w'=>∃ (x6_1:List Int) (x7_1:Int) (x8_1:Int),v7 = .int .u64 x7_1∧v8 = .int .i64 x8_1∧Aside0 (ample_small.l0 kq l0 a1 x6_1 x7_1 x8_1=some (r1,r2))∧Aside0 (kq≤k)∧Aside0 (Kd.R (Kd.int .u32) 171 w' w.heap.size (fun _=>True) v115 x6_1)∧Aside0 (Below w.heap.size w w'))
   case atStart=>exact ⟨(y114),(0),(wrap64 ((l0.length:Int)-1)),(by first|rfl|(simp; done)|(simp [*]; done)),(by first|rfl|(simp; done)|(simp [*]; done)),H',⟨Nat.le_refl _⟩,⟨by (with_reducible repeat (first|apply Kd.R_alloc|apply Kd.R_drewN|apply Kd.R_drew)); exact HO116.out⟩,⟨by repeat (first|(with_reducible first|exact HB.out|apply zaa|apply zab|apply zad)|exact HB.out)⟩⟩
   case round =>
    clear H'
    try clear c1
    try clear p2
    try clear c3
    try clear c3b0
    try clear c3b1
    try clear c4
    try clear c4b0
    try clear c4b1
    try clear p6
    obtain ⟨x6_1,x7_1,x8_1,rfl,rfl,HA,HK1,HO_6,HB⟩:=hrel
    cases gk with
    | zero=>exact absurd HA.out (by simp [ample_small.l0])
    | succ k1 =>
     have H:=HA.out
     clear HA
     simp only [ample_small.l0] at H
     by_cases c7:x8_1≥0
     ·rw [if_pos c7] at H
      have c7b0:decide (0≤x8_1)=true:=decide_eq_true c7
      clear c7
      by_cases c8:0≤x8_1
      ·rw [if_pos c8] at H
       have c8b0:decide (0≤x8_1)=true:=decide_eq_true c8
       clear c8
       by_cases c9:x8_1<(l0.length:Int)
       ·rw [if_pos c9] at H
        have c9b0:decide (x8_1<(l0.length:Int))=true:=decide_eq_true c9
        clear c9
        by_cases c10:(IntKind.u64.wrap (a1))=0
        ·rw [if_pos c10] at H
         exact absurd H (by simp)
        ·rw [if_neg c10] at H
         have c10b0:((IntKind.u64.wrap (a1)) == 0)=false:=beq_eq_false_iff_ne.mpr c10
         have c10b1:((IntKind.u64.wrap (a1)) != 0)=true:=bne_iff_ne.mpr c10
         by_cases c11:x8_1<(x6_1.length:Int)
         ·rw [if_pos c11] at H
          have c11b0:decide (x8_1<(x6_1.length:Int))=true:=decide_eq_true c11
          clear c11
          obtain ⟨y118,hy118⟩:∃ y_:List Int,y_=(x6_1.set (x8_1:Int).toNat ((IntKind.u64.wrap (Int.tdiv (Go.bits .or .u64 (IntKind.u64.wrap (x7_1*4294967296)) (IntKind.u64.wrap (rd l0 x8_1))) (IntKind.u64.wrap (a1))))%4294967296)):=⟨_,rfl⟩
          replace H:(ample_small.l0 k1 l0 a1 y118 (Int.tmod (Go.bits .or .u64 (IntKind.u64.wrap (x7_1*4294967296)) (IntKind.u64.wrap (rd l0 x8_1))) (IntKind.u64.wrap (a1))) (wrap64 (x8_1-1)))=some (r1,r2):=by first|(rw [hy118]; with_reducible exact H)|(have H2_:=(Option.bind_some _ _).symm.trans H; rw [hy118]; with_reducible exact H2_)|(have H2_:=(Option.bind_some _ _).symm.trans H; with_reducible exact H2_)|with_reducible exact H|(rw [hy118]; exact H)|exact H
          have Ny118:=Aside0.mk hy118
          clear hy118
          have H':=Aside0.mk H
          clear H
          have p117:0≤(x8_1:Int):=of_decide_eq_true (by first|(with_reducible assumption)|assumption)
          have q117:x8_1<(l0.length:Int):=of_decide_eq_true (by first|(with_reducible assumption)|assumption)
          obtain ⟨ad117,e117,hx117_0⟩:=Kd.at_int HR0.out x8_1 p117 q117
          cases e117
          replace hx117_0:=(HB.out.cell (World.block_lt_of_cell? w _ hx117_0)).trans hx117_0
          replace p117:=eq_true p117
          replace q117:=eq_true q117
          have p12:0≤(x8_1:Int):=of_decide_eq_true (by first|(with_reducible assumption)|assumption)
          have q12:(x8_1:Int)<((x6_1.length:Int):Int):=of_decide_eq_true (by first|(with_reducible assumption)|assumption)
          obtain ⟨go12,co12,eo12,gb12,gl12,cl12,HG12⟩:=Kd.R_form HO_6.out (by omega)
          (first|cases eo12|(injection eo12 with ea_ en_ ec_; (first|subst ea_|(injection ea_ with ea_; subst ea_)); subst ec_; clear en_))
          have GB12:=Aside0.mk gb12
          have GG12:=Aside0.mk HG12
          clear gb12 gl12 HG12
          obtain ⟨hx12_0,hf12_0⟩:=Kd.R_celln 0 HO_6.out (x8_1:Int) p12 q12
          replace p12:=eq_true p12
          replace q12:=eq_true q12
          have HP13:=Kd.R_putg HO_6.out (x8_1:Int) ((IntKind.u64.wrap (Int.tdiv (Go.bits .or .u64 (IntKind.u64.wrap (x7_1*4294967296)) (IntKind.u64.wrap (rd l0 x8_1))) (IntKind.u64.wrap (a1))))%4294967296)
          go_wp2_with (first|((with_reducible refine zbo (t:=171) (p:=34) rfl ?_); refine zbe (t:=171) (p:=34) (v:=?vo_w14) (w1:=(wr.setCell ⟨go12,(x8_1:Int).toNat,none⟩ (.int .u32 ((IntKind.u64.wrap (Int.tdiv (Go.bits .or .u64 (IntKind.u64.wrap (x7_1*4294967296)) (IntKind.u64.wrap (rd l0 x8_1))) (IntKind.u64.wrap (a1))))%4294967296)))) ?hg ?ho ?hn ?hr ?_; (case ho=>rfl); (case hg=>rfl); (case hn=>rfl); (case hr=>first|(go_simp; done)|(go_simp; rfl)); intro w14 hw; have hg:wr.grownBy w14 (some go12):=(by rw [hw]; exact HP13.2); have hp_:Kd.R (Kd.int .u32) 171 w14 w.heap.size (fun _=>True) (.slice (some ⟨go12,0,none⟩) x6_1.length co12) y118:=(by rw [hw,Ny118.out]; exact HP13.1); clear HP13; have n0_:=Aside0.mk (hp_); have n1_:=Aside0.mk ((by rw [hw]; exact zag (HB.out) GB12.out:Below w.heap.size w w14)); clear HO_6; clear HB; have HO_6:=n0_; have HB:=n1_; clear n0_ n1_; clear hg hw hp_))
          go_roundg k1
          case measure=>have:=HK1.out; omega
          case rel=>exact ⟨(y118),(Int.tmod (Go.bits .or .u64 (IntKind.u64.wrap (x7_1*4294967296)) (IntKind.u64.wrap (rd l0 x8_1))) (IntKind.u64.wrap (a1))),(wrap64 (x8_1-1)),(by first|rfl|(simp; done)|(simp [*]; done)),(by first|rfl|(simp; done)|(simp [*]; done)),H',⟨by have:=HK1.out; omega⟩,⟨by (with_reducible repeat (first|apply Kd.R_alloc|apply Kd.R_drewN|apply Kd.R_drew)); exact HO_6.out⟩,⟨by repeat (first|(with_reducible first|exact HB.out|apply zaa|apply zab|apply zad)|exact HB.out)⟩⟩
         ·rw [if_neg c11] at H
          exact absurd H (by simp)
       ·rw [if_neg c9] at H
        exact absurd H (by simp)
      ·rw [if_neg c8] at H
       exact absurd H (by simp)
     ·rw [if_neg c7] at H
      have c7b0:decide (0≤x8_1)=false:=decide_eq_false c7
      clear c7
      simp only [Option.some.injEq,Prod.mk.injEq] at H
      obtain ⟨rfl,rfl⟩:=H
      go_wp2
      go_ret2
      exact ⟨_,by first|rfl|(simp [zal,zak]<;>rfl)|(simp [*,zal,zak]<;>rfl),by (with_reducible repeat (first|apply Kd.R_alloc|apply Kd.R_drewN|apply Kd.R_drew)); exact HO_6.out,by repeat (first|(with_reducible first|exact HB.out|apply zaa|apply zab|apply zad)|exact HB.out)⟩
  ·rw [if_neg c4] at H
   exact absurd H (by simp)
 ·rw [if_neg c3] at H
  exact absurd H (by simp)
end Go.Proofs.P9
end
section
namespace Go.Proofs.P9
open Go.RowKit Go.Proofs.W9.Wa Go.Proofs.W9.Wb Go.Proofs.W9.Wc
attribute [local go_sem] zaC zaB zaL zaK zaz zay zaE zaD
set_option linter.unusedVariables false
set_option linter.unusedSimpArgs false
def ample_left.l0:Nat→Int→List Int→List Int→Int→Int→Option (List Int)
 | 0,_,_,_,_,_=>none
 | k+1,x1,x5,x13,x14,x15=>if x15<x14 then (if 0≤x15 then (if x15<(x13.length:Int) then (if 0≤x1 then (if x15<(x5.length:Int) then (if 0≤(wrap64 (x15+1)) then (if (wrap64 (x15+1))<(x5.length:Int) then (ample_left.l0 k x1 ((x5.set (x15:Int).toNat (Go.bits .or .u32 (rd x5 x15) ((shl .u64 (IntKind.u64.wrap (rd x13 x15)) x1)%4294967296))).set ((wrap64 (x15+1)):Int).toNat (((shl .u64 (IntKind.u64.wrap (rd x13 x15)) x1)/4294967296)%4294967296)) x13 x14 (wrap64 (x15+1))) else (none)) else (none)) else (none)) else (none)) else (none)) else (none)) else (some x5)
def ample_left.f (k:Nat) (l0:List Int) (a1:Int):Option (List Int):=if 0≤(wrap64 ((l0.length:Int)+1)) then (if (wrap64 ((l0.length:Int)+1):Int).toNat≤70368744177664 then (ample_left.l0 k a1 (List.replicate (wrap64 ((l0.length:Int)+1):Int).toNat 0) l0 (l0.length:Int) 0) else (none)) else (none)
theorem ample_left.calls (k : Nat) (A0 : Option Addr) (c0 : Nat) (l0 : List Int) (a1 : Int) (r : List Int) (w : World) (hr0 : Kd.C (Kd.int .u32) w A0 l0.length l0) (hc0 : l0.length ≤ c0) (h : ample_left.f k l0 a1 = some r) :
  Calls Tryz.prog 244 #[.slice A0 l0.length c0,.int .i64 a1] w fun e w'=>∃ v0_:Value,e = .returned (v0_)∧Kd.R (Kd.int .u32) 171 w' w.heap.size (fun _=>True) v0_ r∧Below w.heap.size w w':=by
 have HR0:=Aside0.mk hr0
 have HC0:=Aside0.mk hc0
 clear hr0 hc0
 have HB:=Aside0.mk (Below.refl w.heap.size w)
 have H:(if 0≤(wrap64 ((l0.length:Int)+1)) then (if (wrap64 ((l0.length:Int)+1):Int).toNat≤70368744177664 then (ample_left.l0 k a1 (List.replicate (wrap64 ((l0.length:Int)+1):Int).toNat 0) l0 (l0.length:Int) 0) else (none)) else (none))=some r:=h
 clear h
 obtain ⟨ji3,hji3⟩:∃ j_:Int,(wrap64 ((l0.length:Int)+1))=j_:=⟨_,rfl⟩
 replace H:(if 0≤(ji3) then (if (ji3:Int).toNat≤70368744177664 then (ample_left.l0 k a1 (List.replicate (ji3:Int).toNat 0) l0 (l0.length:Int) 0) else (none)) else (none))=some r:=by first|(rw [hji3] at H; exact H)|(simp only [hji3] at H ⊢; exact H)
 have hji3w:(IntKind.i64.wrap ((l0.length:Int)+1))=ji3:=(i64_w _).trans hji3
 by_cases c4:0≤(ji3)
 ·rw [if_pos c4] at H
  have c4b0:=eq_true c4
  have c4b1:decide (0≤(ji3))=true:=decide_eq_true c4
  clear c4
  by_cases c5:(ji3:Int).toNat≤70368744177664
  ·rw [if_pos c5] at H
   have c5b0:=eq_true c5
   have c5b1:decide ((ji3:Int).toNat≤70368744177664)=true:=decide_eq_true c5
   clear c5
   obtain ⟨y130,hy130⟩:∃ y_:List Int,y_=(List.replicate (ji3:Int).toNat 0):=⟨_,rfl⟩
   replace H:(ample_left.l0 k a1 y130 l0 (l0.length:Int) 0)=some r:=by first|(rw [hy130]; with_reducible exact H)|(have H2_:=(Option.bind_some _ _).symm.trans H; rw [hy130]; with_reducible exact H2_)|(have H2_:=(Option.bind_some _ _).symm.trans H; with_reducible exact H2_)|with_reducible exact H|(rw [hy130]; exact H)|exact H
   have Ny130:=Aside0.mk hy130
   clear hy130
   have H':=Aside0.mk H
   clear H
   go_enter Tryz.func244,Tryz.ntmps244
   go_wp2_with (first|((with_reducible refine zaO (N:=12) rfl ?_); refine Kd.R_make (Kd.int .u32) _ 171 rfl (N:=12) rfl 103 _ _ rfl ji3 rfl rfl Tryz.underlying103 (.int .u32 0) 4 info171 rfl (by decide) (by omega) 0 (ok:=fun _=>True) (okp:=fun _=>True) rfl (fun _ hk=>hk) trivial (of_decide_eq_true (by first|(with_reducible assumption)|assumption)) (Nat.le_trans (Nat.mul_le_mul_right _ (of_decide_eq_true (by first|(with_reducible assumption)|assumption):ji3.toNat≤70368744177664)) (by omega)) (Below.refl _ _) (Nat.le_refl _) ?_; intro v131 w6 ho7 hb hg_ hnew_; clear hg_ hnew_; (first|rw [←Ny130.out] at ho7|(simp only [Int.reduceToNat] at ho7; rw [←Ny130.out] at ho7)); have n0_:=Aside0.mk (Kd.R_lower ho7 (zap (by repeat (first|(with_reducible first|exact HB.out|apply zaa|apply zab|apply zad)|exact HB.out)))); have n1_:=Aside0.mk (zam (by repeat (first|(with_reducible first|exact HB.out|apply zaa|apply zab|apply zad)|exact HB.out)) hb); clear HB; have HO132:=n0_; have HB:=n1_; clear n0_ n1_; clear hb ho7))
   go_loopg [15] k (fun kq v15 w'=>∃ (x5_1:List Int) (x15_1:Int),v15 = .int .i64 x15_1∧Aside0 (ample_left.l0 kq a1 x5_1 l0 (l0.length:Int) x15_1=some r)∧Aside0 (kq≤k)∧Aside0 (Kd.R (Kd.int .u32) 171 w' w.heap.size (fun _=>True) v131 x5_1)∧Aside0 (Below w.heap.size w w'))
   case atStart=>exact ⟨(y130),(0),(by first|rfl|(simp; done)|(simp [*]; done)),H',⟨Nat.le_refl _⟩,⟨by (with_reducible repeat (first|apply Kd.R_alloc|apply Kd.R_drewN|apply Kd.R_drew)); exact HO132.out⟩,⟨by repeat (first|(with_reducible first|exact HB.out|apply zaa|apply zab|apply zad)|exact HB.out)⟩⟩
   case round =>
    clear H'
    try clear c2
    try clear p2
    try clear c4
    try clear c4b0
    try clear c4b1
    try clear c5
    try clear c5b0
    try clear c5b1
    try clear p6
    obtain ⟨x5_1,x15_1,rfl,HA,HK1,HO_5,HB⟩:=hrel
    cases gk with
    | zero=>exact absurd HA.out (by simp [ample_left.l0])
    | succ k1 =>
     have H:=HA.out
     clear HA
     simp only [ample_left.l0] at H
     by_cases c8:x15_1<(l0.length:Int)
     ·rw [if_pos c8] at H
      have c8b0:decide (x15_1<(l0.length:Int))=true:=decide_eq_true c8
      clear c8
      by_cases c9:0≤x15_1
      ·rw [if_pos c9] at H
       have c9b0:decide (0≤x15_1)=true:=decide_eq_true c9
       clear c9
       by_cases c10:x15_1<(l0.length:Int)
       ·rw [if_pos c10] at H
        have c10b0:decide (x15_1<(l0.length:Int))=true:=decide_eq_true c10
        clear c10
        by_cases c11:0≤a1
        ·rw [if_pos c11] at H
         have c11b0:=eq_true c11
         have c11b1:decide (0≤a1)=true:=decide_eq_true c11
         clear c11
         obtain ⟨ji12,hji12⟩:∃ j_:Int,(shl .u64 (IntKind.u64.wrap (rd l0 x15_1)) a1)=j_:=⟨_,rfl⟩
         replace H:(if x15_1<(x5_1.length:Int) then (if 0≤(wrap64 (x15_1+1)) then (if (wrap64 (x15_1+1))<(x5_1.length:Int) then (ample_left.l0 k1 a1 ((x5_1.set (x15_1:Int).toNat (Go.bits .or .u32 (rd x5_1 x15_1) ((ji12)%4294967296))).set ((wrap64 (x15_1+1)):Int).toNat (((ji12)/4294967296)%4294967296)) l0 (l0.length:Int) (wrap64 (x15_1+1))) else (none)) else (none)) else (none))=some r:=by first|(rw [hji12] at H; exact H)|(simp only [hji12] at H ⊢; exact H)
         have hji12_:(IntKind.u64.wrap ((IntKind.u64.wrap (rd l0 x15_1))*2^min a1.toNat 64))=ji12:=hji12
         have hji12z:a1≤64→(IntKind.u64.wrap ((IntKind.u64.wrap (rd l0 x15_1))*2^a1.toNat))=ji12:=shl_small hji12
         by_cases c13:x15_1<(x5_1.length:Int)
         ·rw [if_pos c13] at H
          have c13b0:decide (x15_1<(x5_1.length:Int))=true:=decide_eq_true c13
          clear c13
          obtain ⟨y135,hy135⟩:∃ y_:List Int,y_=(x5_1.set (x15_1:Int).toNat (Go.bits .or .u32 (rd x5_1 x15_1) ((ji12)%4294967296))):=⟨_,rfl⟩
          replace H:(if 0≤(wrap64 (x15_1+1)) then (if (wrap64 (x15_1+1))<(x5_1.length:Int) then (ample_left.l0 k1 a1 (y135.set ((wrap64 (x15_1+1)):Int).toNat (((ji12)/4294967296)%4294967296)) l0 (l0.length:Int) (wrap64 (x15_1+1))) else (none)) else (none))=some r:=by first|(rw [hy135]; with_reducible exact H)|(have H2_:=(Option.bind_some _ _).symm.trans H; rw [hy135]; with_reducible exact H2_)|(have H2_:=(Option.bind_some _ _).symm.trans H; with_reducible exact H2_)|with_reducible exact H|(rw [hy135]; exact H)|exact H
          have Ny135:=Aside0.mk hy135
          clear hy135
          obtain ⟨ji15,hji15⟩:∃ j_:Int,(wrap64 (x15_1+1))=j_:=⟨_,rfl⟩
          replace H:(if 0≤(ji15) then (if (ji15)<(x5_1.length:Int) then (ample_left.l0 k1 a1 (y135.set ((ji15):Int).toNat (((ji12)/4294967296)%4294967296)) l0 (l0.length:Int) ji15) else (none)) else (none))=some r:=by first|(rw [hji15] at H; exact H)|(simp only [hji15] at H ⊢; exact H)
          have hji15w:(IntKind.i64.wrap (x15_1+1))=ji15:=(i64_w _).trans hji15
          by_cases c16:0≤(ji15)
          ·rw [if_pos c16] at H
           have c16b0:decide (0≤(ji15))=true:=decide_eq_true c16
           clear c16
           by_cases c17:(ji15)<(x5_1.length:Int)
           ·rw [if_pos c17] at H
            have c17b0:decide ((ji15)<(x5_1.length:Int))=true:=decide_eq_true c17
            clear c17
            obtain ⟨y136,hy136⟩:∃ y_:List Int,y_=(y135.set ((ji15):Int).toNat (((ji12)/4294967296)%4294967296)):=⟨_,rfl⟩
            replace H:(ample_left.l0 k1 a1 y136 l0 (l0.length:Int) ji15)=some r:=by first|(rw [hy136]; with_reducible exact H)|(have H2_:=(Option.bind_some _ _).symm.trans H; rw [hy136]; with_reducible exact H2_)|(have H2_:=(Option.bind_some _ _).symm.trans H; with_reducible exact H2_)|with_reducible exact H|(rw [hy136]; exact H)|exact H
            have Ny136:=Aside0.mk hy136
            clear hy136
            have H':=Aside0.mk H
            clear H
            have p133:0≤(x15_1:Int):=of_decide_eq_true (by first|(with_reducible assumption)|assumption)
            have q133:x15_1<(l0.length:Int):=of_decide_eq_true (by first|(with_reducible assumption)|assumption)
            obtain ⟨ad133,e133,hx133_0⟩:=Kd.at_int HR0.out x15_1 p133 q133
            cases e133
            replace hx133_0:=(HB.out.cell (World.block_lt_of_cell? w _ hx133_0)).trans hx133_0
            replace p133:=eq_true p133
            replace q133:=eq_true q133
            obtain ⟨Ao19,co19,eo19⟩:=Kd.R_slice HO_5.out
            subst eo19
            have p134:0≤(x15_1:Int):=of_decide_eq_true (by first|(with_reducible assumption)|assumption)
            have q134:x15_1<(x5_1.length:Int):=of_decide_eq_true (by first|(with_reducible assumption)|assumption)
            obtain ⟨ad134,e134,hx134_0⟩:=Kd.at_int (Kd.R_reads' HO_5.out).2.2 x15_1 p134 q134
            cases e134
            replace p134:=eq_true p134
            replace q134:=eq_true q134
            have p14:0≤(x15_1:Int):=of_decide_eq_true (by first|(with_reducible assumption)|assumption)
            have q14:(x15_1:Int)<((x5_1.length:Int):Int):=of_decide_eq_true (by first|(with_reducible assumption)|assumption)
            obtain ⟨go14,co14,eo14,gb14,gl14,cl14,HG14⟩:=Kd.R_form HO_5.out (by omega)
            (first|cases eo14|(injection eo14 with ea_ en_ ec_; (first|subst ea_|(injection ea_ with ea_; subst ea_)); subst ec_; clear en_))
            have GB14:=Aside0.mk gb14
            have GG14:=Aside0.mk HG14
            clear gb14 gl14 HG14
            (first|simp only [zbp] at hx134_0|skip)
            obtain ⟨hx14_0,hf14_0⟩:=Kd.R_celln 0 HO_5.out (x15_1:Int) p14 q14
            replace p14:=eq_true p14
            replace q14:=eq_true q14
            have HP20:=Kd.R_putg HO_5.out (x15_1:Int) (Go.bits .or .u32 (rd x5_1 x15_1) ((ji12)%4294967296))
            go_wp2_with (first|((with_reducible refine zbo (t:=171) (p:=31) rfl ?_); refine zbe (t:=171) (p:=31) (v:=?vo_w21) (w1:=(wr.setCell ⟨go14,(x15_1:Int).toNat,none⟩ (.int .u32 (Go.bits .or .u32 (rd x5_1 x15_1) ((ji12)%4294967296))))) ?hg ?ho ?hn ?hr ?_; (case ho=>rfl); (case hg=>rfl); (case hn=>rfl); (case hr=>first|(go_simp; done)|(go_simp; rfl)); intro w21 hw; have hg:wr.grownBy w21 (some go14):=(by rw [hw]; exact HP20.2); have hp_:Kd.R (Kd.int .u32) 171 w21 w.heap.size (fun _=>True) (.slice (some ⟨go14,0,none⟩) x5_1.length co19) y135:=(by rw [hw,Ny135.out]; exact HP20.1); clear HP20; have n0_:=Aside0.mk (hp_); have n1_:=Aside0.mk ((by rw [hw]; exact zag (HB.out) GB14.out:Below w.heap.size w w21)); clear HO_5; clear HB; have HO_5:=n0_; have HB:=n1_; clear n0_ n1_; clear hg hw hp_; have p18:0≤((ji15):Int):=of_decide_eq_true (by first|(with_reducible assumption)|assumption); have q18:((ji15):Int)<((x5_1.length:Int):Int):=of_decide_eq_true (by first|(with_reducible assumption)|assumption); obtain ⟨hx18_0,hf18_0⟩:=Kd.R_celln 0 HO_5.out ((ji15):Int) p18 q18; replace p18:=eq_true p18; replace q18:=eq_true q18; obtain ⟨hy22_,hz22_⟩:=Kd.R_celln 0 HO_5.out ((ji15):Int) (of_decide_eq_true (by first|(with_reducible assumption)|assumption)) (of_decide_eq_true (by first|(with_reducible assumption)|assumption)); have HP22:=Kd.R_putg HO_5.out ((ji15):Int) (((ji12)/4294967296)%4294967296))|((with_reducible refine zbo (t:=171) (p:=38) rfl ?_); refine zbe (t:=171) (p:=38) (v:=?vo_w23) (w1:=(w21.setCell ⟨go14,((ji15):Int).toNat,none⟩ (.int .u32 (((ji12)/4294967296)%4294967296)))) ?hg ?ho ?hn ?hr ?_; (case ho=>rfl); (case hg=>rfl); (case hn=>rfl); (case hr=>first|(go_simp; done)|(go_simp; rfl)); intro w23 hw; have hg:w21.grownBy w23 (some go14):=(by rw [hw]; exact HP22.2); have hp_:Kd.R (Kd.int .u32) 171 w23 w.heap.size (fun _=>True) (.slice (some ⟨go14,0,none⟩) x5_1.length co19) y136:=(by rw [hw,Ny136.out]; exact HP22.1); clear HP22; have n0_:=Aside0.mk (hp_); have n1_:=Aside0.mk ((by rw [hw]; exact zag (HB.out) GB14.out:Below w.heap.size w w23)); clear HO_5; clear HB; have HO_5:=n0_; have HB:=n1_; clear n0_ n1_; clear hg hw hp_))
            go_roundg k1
            case measure=>have:=HK1.out; omega
            case rel=>exact ⟨(y136),(ji15),(by first|rfl|(simp; done)|(simp only [←hji15]<;>(first|rfl|simp))|(simp [*]; done)),H',⟨by have:=HK1.out; omega⟩,⟨by (with_reducible repeat (first|apply Kd.R_alloc|apply Kd.R_drewN|apply Kd.R_drew)); exact HO_5.out⟩,⟨by repeat (first|(with_reducible first|exact HB.out|apply zaa|apply zab|apply zad)|exact HB.out)⟩⟩
           ·rw [if_neg c17] at H
            exact absurd H (by simp)
          ·rw [if_neg c16] at H
           exact absurd H (by simp)
         ·rw [if_neg c13] at H
          exact absurd H (by simp)
        ·rw [if_neg c11] at H
         exact absurd H (by simp)
       ·rw [if_neg c10] at H
        exact absurd H (by simp)
      ·rw [if_neg c9] at H
       exact absurd H (by simp)
     ·rw [if_neg c8] at H
      have c8b0:decide (x15_1<(l0.length:Int))=false:=decide_eq_false c8
      clear c8
      obtain rfl:=Option.some.inj H
      go_wp2
      go_ret
      exact ⟨_,by first|rfl|(simp [zal,zak]<;>rfl)|(simp only [←hji3]; first|rfl|(simp [zal,zak]<;>rfl))|(simp [*,zal,zak]<;>rfl),by (with_reducible repeat (first|apply Kd.R_alloc|apply Kd.R_drewN|apply Kd.R_drew)); exact HO_5.out,by repeat (first|(with_reducible first|exact HB.out|apply zaa|apply zab|apply zad)|exact HB.out)⟩
  ·rw [if_neg c5] at H
   exact absurd H (by simp)
 ·rw [if_neg c4] at H
  exact absurd H (by simp)
end Go.Proofs.P9
end
section
namespace Go.Proofs.P9
open Go.RowKit Go.Proofs.W9.Wa Go.Proofs.W9.Wb Go.Proofs.W9.Wc
attribute [local go_sem] zaC zaB zaL zaK zaz zay zaE zaD
set_option linter.unusedVariables false
set_option linter.unusedSimpArgs false
def ample_right.l0:Nat→List Int→Int→List Int→List Int→Int→Int→Option (List Int)
 | 0,_,_,_,_,_,_=>none
 | k+1,x0,x1,x5,x12,x13,x14=>if x14<x13 then (if 0≤x14 then (if x14<(x12.length:Int) then (if (wrap64 (x14+1))<(x0.length:Int) then (if 0≤(wrap64 (x14+1)) then (if 0≤x1 then (if x14<(x5.length:Int) then (ample_right.l0 k x0 x1 (x5.set (x14:Int).toNat ((shr .u64 (Go.bits .or .u64 (IntKind.u64.wrap (rd x12 x14)) (IntKind.u64.wrap ((IntKind.u64.wrap (rd x0 (wrap64 (x14+1))))*4294967296))) x1)%4294967296)) x12 x13 (wrap64 (x14+1))) else (none)) else (none)) else (none)) else (if 0≤x1 then (if x14<(x5.length:Int) then (ample_right.l0 k x0 x1 (x5.set (x14:Int).toNat ((shr .u64 (IntKind.u64.wrap (rd x12 x14)) x1)%4294967296)) x12 x13 (wrap64 (x14+1))) else (none)) else (none))) else (none)) else (none)) else (some x5)
def ample_right.f (k:Nat) (l0:List Int) (a1:Int):Option (List Int):=if 0≤(l0.length:Int) then (if ((l0.length:Int):Int).toNat≤70368744177664 then (ample_right.l0 k l0 a1 (List.replicate ((l0.length:Int):Int).toNat 0) l0 (l0.length:Int) 0) else (none)) else (none)
theorem ample_right.calls (k : Nat) (A0 : Option Addr) (c0 : Nat) (l0 : List Int) (a1 : Int) (r : List Int) (w : World) (hr0 : Kd.C (Kd.int .u32) w A0 l0.length l0) (hc0 : l0.length ≤ c0) (h : ample_right.f k l0 a1 = some r) :
  Calls Tryz.prog 246 #[.slice A0 l0.length c0,.int .i64 a1] w fun e w'=>∃ v0_:Value,e = .returned (v0_)∧Kd.R (Kd.int .u32) 171 w' w.heap.size (fun _=>True) v0_ r∧Below w.heap.size w w':=by
 have HR0:=Aside0.mk hr0
 have HC0:=Aside0.mk hc0
 clear hr0 hc0
 have HB:=Aside0.mk (Below.refl w.heap.size w)
 have H:(if 0≤(l0.length:Int) then (if ((l0.length:Int):Int).toNat≤70368744177664 then (ample_right.l0 k l0 a1 (List.replicate ((l0.length:Int):Int).toNat 0) l0 (l0.length:Int) 0) else (none)) else (none))=some r:=h
 clear h
 by_cases c3:0≤(l0.length:Int)
 ·rw [if_pos c3] at H
  have c3b0:=eq_true c3
  have c3b1:decide (0≤(l0.length:Int))=true:=decide_eq_true c3
  clear c3
  by_cases c4:((l0.length:Int):Int).toNat≤70368744177664
  ·rw [if_pos c4] at H
   have c4b0:=eq_true c4
   have c4b1:decide (((l0.length:Int):Int).toNat≤70368744177664)=true:=decide_eq_true c4
   clear c4
   obtain ⟨y150,hy150⟩:∃ y_:List Int,y_=(List.replicate ((l0.length:Int):Int).toNat 0):=⟨_,rfl⟩
   replace H:(ample_right.l0 k l0 a1 y150 l0 (l0.length:Int) 0)=some r:=by first|(rw [hy150]; with_reducible exact H)|(have H2_:=(Option.bind_some _ _).symm.trans H; rw [hy150]; with_reducible exact H2_)|(have H2_:=(Option.bind_some _ _).symm.trans H; with_reducible exact H2_)|with_reducible exact H|(rw [hy150]; exact H)|exact H
   have Ny150:=Aside0.mk hy150
   clear hy150
   have H':=Aside0.mk H
   clear H
   go_enter Tryz.func246,Tryz.ntmps246
   go_wp2_with (first|((with_reducible refine zaO (N:=11) rfl ?_); refine Kd.R_make (Kd.int .u32) _ 171 rfl (N:=11) rfl 103 _ _ rfl (l0.length:Int) rfl rfl Tryz.underlying103 (.int .u32 0) 4 info171 rfl (by decide) (by omega) 0 (ok:=fun _=>True) (okp:=fun _=>True) rfl (fun _ hk=>hk) trivial (of_decide_eq_true (by first|(with_reducible assumption)|assumption)) (Nat.le_trans (Nat.mul_le_mul_right _ (of_decide_eq_true (by first|(with_reducible assumption)|assumption):(l0.length:Int).toNat≤70368744177664)) (by omega)) (Below.refl _ _) (Nat.le_refl _) ?_; intro v151 w5 ho6 hb hg_ hnew_; clear hg_ hnew_; (first|rw [←Ny150.out] at ho6|(simp only [Int.reduceToNat] at ho6; rw [←Ny150.out] at ho6)); have n0_:=Aside0.mk (Kd.R_lower ho6 (zap (by repeat (first|(with_reducible first|exact HB.out|apply zaa|apply zab|apply zad)|exact HB.out)))); have n1_:=Aside0.mk (zam (by repeat (first|(with_reducible first|exact HB.out|apply zaa|apply zab|apply zad)|exact HB.out)) hb); clear HB; have HO152:=n0_; have HB:=n1_; clear n0_ n1_; clear hb ho6))
   go_loopg [14] k (fun kq v14 w'=>∃ (x5_1:List Int) (x14_1:Int),v14 = .int .i64 x14_1∧Aside0 (ample_right.l0 kq l0 a1 x5_1 l0 (l0.length:Int) x14_1=some r)∧Aside0 (kq≤k)∧Aside0 (Kd.R (Kd.int .u32) 171 w' w.heap.size (fun _=>True) v151 x5_1)∧Aside0 (Below w.heap.size w w'))
   case atStart=>exact ⟨(y150),(0),(by first|rfl|(simp; done)|(simp [*]; done)),H',⟨Nat.le_refl _⟩,⟨by (with_reducible repeat (first|apply Kd.R_alloc|apply Kd.R_drewN|apply Kd.R_drew)); exact HO152.out⟩,⟨by repeat (first|(with_reducible first|exact HB.out|apply zaa|apply zab|apply zad)|exact HB.out)⟩⟩
   case round =>
    clear H'
    try clear c2
    try clear p2
    try clear c3
    try clear c3b0
    try clear c3b1
    try clear c4
    try clear c4b0
    try clear c4b1
    obtain ⟨x5_1,x14_1,rfl,HA,HK1,HO_5,HB⟩:=hrel
    cases gk with
    | zero=>exact absurd HA.out (by simp [ample_right.l0])
    | succ k1 =>
     have H:=HA.out
     clear HA
     simp only [ample_right.l0] at H
     by_cases c7:x14_1<(l0.length:Int)
     ·rw [if_pos c7] at H
      have c7b0:decide (x14_1<(l0.length:Int))=true:=decide_eq_true c7
      clear c7
      by_cases c8:0≤x14_1
      ·rw [if_pos c8] at H
       have c8b0:decide (0≤x14_1)=true:=decide_eq_true c8
       clear c8
       by_cases c9:x14_1<(l0.length:Int)
       ·rw [if_pos c9] at H
        have c9b0:decide (x14_1<(l0.length:Int))=true:=decide_eq_true c9
        clear c9
        by_cases c10:(wrap64 (x14_1+1))<(l0.length:Int)
        ·rw [if_pos c10] at H
         have c10b0:decide ((wrap64 (x14_1+1))<(l0.length:Int))=true:=decide_eq_true c10
         clear c10
         obtain ⟨ji11,hji11⟩:∃ j_:Int,(wrap64 (x14_1+1))=j_:=⟨_,rfl⟩
         replace H:(if 0≤(ji11) then (if 0≤a1 then (if x14_1<(x5_1.length:Int) then (ample_right.l0 k1 l0 a1 (x5_1.set (x14_1:Int).toNat ((shr .u64 (Go.bits .or .u64 (IntKind.u64.wrap (rd l0 x14_1)) (IntKind.u64.wrap ((IntKind.u64.wrap (rd l0 (ji11)))*4294967296))) a1)%4294967296)) l0 (l0.length:Int) ji11) else (none)) else (none)) else (none))=some r:=by first|(rw [hji11] at H; exact H)|(simp only [hji11] at H ⊢; exact H)
         (try rw [hji11] at c10b0)
         have hji11w:(IntKind.i64.wrap (x14_1+1))=ji11:=(i64_w _).trans hji11
         by_cases c12:0≤(ji11)
         ·rw [if_pos c12] at H
          have c12b0:decide (0≤(ji11))=true:=decide_eq_true c12
          clear c12
          by_cases c13:0≤a1
          ·rw [if_pos c13] at H
           have c13b0:=eq_true c13
           have c13b1:decide (0≤a1)=true:=decide_eq_true c13
           clear c13
           obtain ⟨ji14,hji14⟩:∃ j_:Int,(shr .u64 (Go.bits .or .u64 (IntKind.u64.wrap (rd l0 x14_1)) (IntKind.u64.wrap ((IntKind.u64.wrap (rd l0 (ji11)))*4294967296))) a1)=j_:=⟨_,rfl⟩
           replace H:(if x14_1<(x5_1.length:Int) then (ample_right.l0 k1 l0 a1 (x5_1.set (x14_1:Int).toNat ((ji14)%4294967296)) l0 (l0.length:Int) ji11) else (none))=some r:=by first|(rw [hji14] at H; exact H)|(simp only [hji14] at H ⊢; exact H)
           have hji14_:((Go.bits .or .u64 (IntKind.u64.wrap (rd l0 x14_1)) (IntKind.u64.wrap ((IntKind.u64.wrap (rd l0 (ji11)))*4294967296)))/2^min a1.toNat 64)=ji14:=hji14
           have hji14z:a1≤64→((Go.bits .or .u64 (IntKind.u64.wrap (rd l0 x14_1)) (IntKind.u64.wrap ((IntKind.u64.wrap (rd l0 (ji11)))*4294967296)))/2^a1.toNat)=ji14:=shr_small hji14
           by_cases c15:x14_1<(x5_1.length:Int)
           ·rw [if_pos c15] at H
            have c15b0:decide (x14_1<(x5_1.length:Int))=true:=decide_eq_true c15
            clear c15
            obtain ⟨y155,hy155⟩:∃ y_:List Int,y_=(x5_1.set (x14_1:Int).toNat ((ji14)%4294967296)):=⟨_,rfl⟩
            replace H:(ample_right.l0 k1 l0 a1 y155 l0 (l0.length:Int) ji11)=some r:=by first|(rw [hy155]; with_reducible exact H)|(have H2_:=(Option.bind_some _ _).symm.trans H; rw [hy155]; with_reducible exact H2_)|(have H2_:=(Option.bind_some _ _).symm.trans H; with_reducible exact H2_)|with_reducible exact H|(rw [hy155]; exact H)|exact H
            have Ny155:=Aside0.mk hy155
            clear hy155
            have H':=Aside0.mk H
            clear H
            have p153:0≤(x14_1:Int):=of_decide_eq_true (by first|(with_reducible assumption)|assumption)
            have q153:x14_1<(l0.length:Int):=of_decide_eq_true (by first|(with_reducible assumption)|assumption)
            obtain ⟨ad153,e153,hx153_0⟩:=Kd.at_int HR0.out x14_1 p153 q153
            cases e153
            replace hx153_0:=(HB.out.cell (World.block_lt_of_cell? w _ hx153_0)).trans hx153_0
            replace p153:=eq_true p153
            replace q153:=eq_true q153
            have p154:0≤((ji11):Int):=of_decide_eq_true (by first|(with_reducible assumption)|assumption)
            have q154:(ji11)<(l0.length:Int):=of_decide_eq_true (by first|(with_reducible assumption)|assumption)
            obtain ⟨ad154,e154,hx154_0⟩:=Kd.at_int HR0.out (ji11) p154 q154
            obtain rfl:ad153=ad154:=(by injection e154)
            replace hx154_0:=(HB.out.cell (World.block_lt_of_cell? w _ hx154_0)).trans hx154_0
            replace p154:=eq_true p154
            replace q154:=eq_true q154
            have p16:0≤(x14_1:Int):=of_decide_eq_true (by first|(with_reducible assumption)|assumption)
            have q16:(x14_1:Int)<((x5_1.length:Int):Int):=of_decide_eq_true (by first|(with_reducible assumption)|assumption)
            obtain ⟨go16,co16,eo16,gb16,gl16,cl16,HG16⟩:=Kd.R_form HO_5.out (by omega)
            (first|cases eo16|(injection eo16 with ea_ en_ ec_; (first|subst ea_|(injection ea_ with ea_; subst ea_)); subst ec_; clear en_))
            have GB16:=Aside0.mk gb16
            have GG16:=Aside0.mk HG16
            clear gb16 gl16 HG16
            obtain ⟨hx16_0,hf16_0⟩:=Kd.R_celln 0 HO_5.out (x14_1:Int) p16 q16
            replace p16:=eq_true p16
            replace q16:=eq_true q16
            have HP17:=Kd.R_putg HO_5.out (x14_1:Int) ((ji14)%4294967296)
            go_wp2_with (first|((with_reducible refine zbo (t:=171) (p:=41) rfl ?_); refine zbe (t:=171) (p:=41) (v:=?vo_w18) (w1:=(wr.setCell ⟨go16,(x14_1:Int).toNat,none⟩ (.int .u32 ((ji14)%4294967296)))) ?hg ?ho ?hn ?hr ?_; (case ho=>rfl); (case hg=>rfl); (case hn=>rfl); (case hr=>first|(go_simp; done)|(go_simp; rfl)); intro w18 hw; have hg:wr.grownBy w18 (some go16):=(by rw [hw]; exact HP17.2); have hp_:Kd.R (Kd.int .u32) 171 w18 w.heap.size (fun _=>True) (.slice (some ⟨go16,0,none⟩) x5_1.length co16) y155:=(by rw [hw,Ny155.out]; exact HP17.1); clear HP17; have n0_:=Aside0.mk (hp_); have n1_:=Aside0.mk ((by rw [hw]; exact zag (HB.out) GB16.out:Below w.heap.size w w18)); clear HO_5; clear HB; have HO_5:=n0_; have HB:=n1_; clear n0_ n1_; clear hg hw hp_))
            go_roundg k1
            case measure=>have:=HK1.out; omega
            case rel=>exact ⟨(y155),(ji11),(by first|rfl|(simp; done)|(simp only [←hji11]<;>(first|rfl|simp))|(simp [*]; done)),H',⟨by have:=HK1.out; omega⟩,⟨by (with_reducible repeat (first|apply Kd.R_alloc|apply Kd.R_drewN|apply Kd.R_drew)); exact HO_5.out⟩,⟨by repeat (first|(with_reducible first|exact HB.out|apply zaa|apply zab|apply zad)|exact HB.out)⟩⟩
           ·rw [if_neg c15] at H
            exact absurd H (by simp)
          ·rw [if_neg c13] at H
           exact absurd H (by simp)
         ·rw [if_neg c12] at H
          exact absurd H (by simp)
        ·rw [if_neg c10] at H
         have c10b0:decide ((wrap64 (x14_1+1))<(l0.length:Int))=false:=decide_eq_false c10
         clear c10
         by_cases c19:0≤a1
         ·rw [if_pos c19] at H
          have c19b0:=eq_true c19
          have c19b1:decide (0≤a1)=true:=decide_eq_true c19
          clear c19
          obtain ⟨ji20,hji20⟩:∃ j_:Int,(shr .u64 (IntKind.u64.wrap (rd l0 x14_1)) a1)=j_:=⟨_,rfl⟩
          replace H:(if x14_1<(x5_1.length:Int) then (ample_right.l0 k1 l0 a1 (x5_1.set (x14_1:Int).toNat ((ji20)%4294967296)) l0 (l0.length:Int) (wrap64 (x14_1+1))) else (none))=some r:=by first|(rw [hji20] at H; exact H)|(simp only [hji20] at H ⊢; exact H)
          have hji20_:((IntKind.u64.wrap (rd l0 x14_1))/2^min a1.toNat 64)=ji20:=hji20
          have hji20z:a1≤64→((IntKind.u64.wrap (rd l0 x14_1))/2^a1.toNat)=ji20:=shr_small hji20
          by_cases c21:x14_1<(x5_1.length:Int)
          ·rw [if_pos c21] at H
           have c21b0:decide (x14_1<(x5_1.length:Int))=true:=decide_eq_true c21
           clear c21
           obtain ⟨y156,hy156⟩:∃ y_:List Int,y_=(x5_1.set (x14_1:Int).toNat ((ji20)%4294967296)):=⟨_,rfl⟩
           replace H:(ample_right.l0 k1 l0 a1 y156 l0 (l0.length:Int) (wrap64 (x14_1+1)))=some r:=by first|(rw [hy156]; with_reducible exact H)|(have H2_:=(Option.bind_some _ _).symm.trans H; rw [hy156]; with_reducible exact H2_)|(have H2_:=(Option.bind_some _ _).symm.trans H; with_reducible exact H2_)|with_reducible exact H|(rw [hy156]; exact H)|exact H
           have Ny156:=Aside0.mk hy156
           clear hy156
           have H':=Aside0.mk H
           clear H
           have p153:0≤(x14_1:Int):=of_decide_eq_true (by first|(with_reducible assumption)|assumption)
           have q153:x14_1<(l0.length:Int):=of_decide_eq_true (by first|(with_reducible assumption)|assumption)
           obtain ⟨ad153,e153,hx153_0⟩:=Kd.at_int HR0.out x14_1 p153 q153
           cases e153
           replace hx153_0:=(HB.out.cell (World.block_lt_of_cell? w _ hx153_0)).trans hx153_0
           replace p153:=eq_true p153
           replace q153:=eq_true q153
           have p22:0≤(x14_1:Int):=of_decide_eq_true (by first|(with_reducible assumption)|assumption)
           have q22:(x14_1:Int)<((x5_1.length:Int):Int):=of_decide_eq_true (by first|(with_reducible assumption)|assumption)
           obtain ⟨go22,co22,eo22,gb22,gl22,cl22,HG22⟩:=Kd.R_form HO_5.out (by omega)
           (first|cases eo22|(injection eo22 with ea_ en_ ec_; (first|subst ea_|(injection ea_ with ea_; subst ea_)); subst ec_; clear en_))
           have GB22:=Aside0.mk gb22
           have GG22:=Aside0.mk HG22
           clear gb22 gl22 HG22
           obtain ⟨hx22_0,hf22_0⟩:=Kd.R_celln 0 HO_5.out (x14_1:Int) p22 q22
           replace p22:=eq_true p22
           replace q22:=eq_true q22
           have HP23:=Kd.R_putg HO_5.out (x14_1:Int) ((ji20)%4294967296)
           go_wp2_with (first|((with_reducible refine zbo (t:=171) (p:=41) rfl ?_); refine zbe (t:=171) (p:=41) (v:=?vo_w24) (w1:=(wr.setCell ⟨go22,(x14_1:Int).toNat,none⟩ (.int .u32 ((ji20)%4294967296)))) ?hg ?ho ?hn ?hr ?_; (case ho=>rfl); (case hg=>rfl); (case hn=>rfl); (case hr=>first|(go_simp; done)|(go_simp; rfl)); intro w24 hw; have hg:wr.grownBy w24 (some go22):=(by rw [hw]; exact HP23.2); have hp_:Kd.R (Kd.int .u32) 171 w24 w.heap.size (fun _=>True) (.slice (some ⟨go22,0,none⟩) x5_1.length co22) y156:=(by rw [hw,Ny156.out]; exact HP23.1); clear HP23; have n0_:=Aside0.mk (hp_); have n1_:=Aside0.mk ((by rw [hw]; exact zag (HB.out) GB22.out:Below w.heap.size w w24)); clear HO_5; clear HB; have HO_5:=n0_; have HB:=n1_; clear n0_ n1_; clear hg hw hp_))
           go_roundg k1
           case measure=>have:=HK1.out; omega
           case rel=>exact ⟨(y156),(wrap64 (x14_1+1)),(by first|rfl|(simp; done)|(simp [*]; done)),H',⟨by have:=HK1.out; omega⟩,⟨by (with_reducible repeat (first|apply Kd.R_alloc|apply Kd.R_drewN|apply Kd.R_drew)); exact HO_5.out⟩,⟨by repeat (first|(with_reducible first|exact HB.out|apply zaa|apply zab|apply zad)|exact HB.out)⟩⟩
          ·rw [if_neg c21] at H
           exact absurd H (by simp)
         ·rw [if_neg c19] at H
          exact absurd H (by simp)
       ·rw [if_neg c9] at H
        exact absurd H (by simp)
      ·rw [if_neg c8] at H
       exact absurd H (by simp)
     ·rw [if_neg c7] at H
      have c7b0:decide (x14_1<(l0.length:Int))=false:=decide_eq_false c7
      clear c7
      obtain rfl:=Option.some.inj H
      go_wp2
      go_ret
      exact ⟨_,by first|rfl|(simp [zal,zak]<;>rfl)|(simp [*,zal,zak]<;>rfl),by (with_reducible repeat (first|apply Kd.R_alloc|apply Kd.R_drewN|apply Kd.R_drew)); exact HO_5.out,by repeat (first|(with_reducible first|exact HB.out|apply zaa|apply zab|apply zad)|exact HB.out)⟩
  ·rw [if_neg c4] at H
   exact absurd H (by simp)
 ·rw [if_neg c3] at H
  exact absurd H (by simp)
end Go.Proofs.P9
end
section
set_option linter.unusedVariables false
namespace Go.Proofs.P9
open Go.RowKit Go.Proofs.W9.Wa Go.Proofs.W9.Wc
theorem u64w {x:Int} (h0:0≤x) (h1:x<18446744073709551616):IntKind.u64.wrap x=x:=IntWalk.u64_in x ⟨h0,by omega⟩
theorem or_join (r x:Int) (hr:0≤r∧r<4294967296) (hx:0≤x∧x<4294967296):Go.bits .or .u64 (IntKind.u64.wrap (r*4294967296)) (IntKind.u64.wrap x)=r*4294967296+x:=by
  rw [u64w (by omega) (by omega),u64w (by omega) (by omega)]
  obtain ⟨R,rfl⟩:=Int.eq_ofNat_of_zero_le hr.1
  obtain ⟨X,rfl⟩:=Int.eq_ofNat_of_zero_le hx.1
  have e:((R:Int)*4294967296)=((R*4294967296:Nat):Int):=by omega
  rw [e,bits_or_u64_nat _ _ (by omega) (by omega)]
  have:=Nat.shiftLeft_add_eq_or_of_lt (i:=32) (b:=X) (by omega) R
  rw [Nat.shiftLeft_eq] at this
  rw [show R*4294967296=R*2^32 by rfl,←this]
  omega
theorem or_join_hi (x r:Int) (hr:0≤r∧r<4294967296) (hx:0≤x∧x<4294967296):Go.bits .or .u64 (IntKind.u64.wrap x) (IntKind.u64.wrap (r*4294967296))=r*4294967296+x:=by
  rw [u64w (by omega) (by omega),u64w (by omega) (by omega)]
  obtain ⟨R,rfl⟩:=Int.eq_ofNat_of_zero_le hr.1
  obtain ⟨X,rfl⟩:=Int.eq_ofNat_of_zero_le hx.1
  have e:((R:Int)*4294967296)=((R*4294967296:Nat):Int):=by omega
  rw [e,bits_or_u64_nat _ _ (by omega) (by omega),Nat.or_comm]
  have:=Nat.shiftLeft_add_eq_or_of_lt (i:=32) (b:=X) (by omega) R
  rw [Nat.shiftLeft_eq] at this
  rw [show R*4294967296=R*2^32 by rfl,←this]
  omega
theorem rd_lt {xs:List Int} {i:Nat} (h:i<xs.length):rd xs (i:Int)=xs[i]:=by rw [←zaX,List.getD_eq_getElem?_getD,List.getElem?_eq_getElem h]; rfl
theorem zcF {xs:List Int} {i:Nat} (h:i<xs.length):xs.drop i=rd xs (i:Int) :: xs.drop (i+1):=by rw [rd_lt h]; exact List.drop_eq_getElem_cons h
theorem drop_set_lt {xs:List Int} {i j:Nat} (h:i<j) (v:Int):(xs.set i v).drop j=xs.drop j:=by
  rw [List.drop_set,if_pos h]
theorem zdz {xs:List Int} {i:Nat} (h:i<xs.length) (v:Int):(xs.set i v).drop i=v :: xs.drop (i+1):=by
  rw [zcF (by simpa using h),drop_set_lt (Nat.lt_succ_self i),rd_lt (by simpa using h)]; simp
theorem zdp {xs:List Int} {i j:Nat} (h:i≠j) (v:Int):rd (xs.set i v) (j:Int)=rd xs (j:Int):=by
  rw [←zaX,←zaX,List.getD_eq_getElem?_getD,List.getD_eq_getElem?_getD,List.getElem?_set_ne h]
theorem own_of_R {w:World} {base:Nat} {ok:Nat→Prop} {v:Value} {zs:List Int} (h:Kd.R (Kd.int .u32) 171 w base ok v zs):OwnW w base v zs:=by
  obtain ⟨_,inner,ho,hr⟩:=h
  have e:=Kd.reps_encs hr
  subst e
  exact ho
theorem small_loop (xs:List Int) (b:Int) (hx:Wd xs) (hb0:0<b) (hb1:b<4294967296) (hm:xs.length≤9223372036854775807):∀ (i:Nat) (qs:List Int) (r:Int),i≤xs.length→qs.length=xs.length→Wd qs→0≤r→r<b →
    val (xs.drop i)=b*val (qs.drop i)+r→∀ k,i<k→∃ zs s,ample_small.l0 k xs b qs r ((i:Int)-1)=some (zs,s)∧zs.length=xs.length∧Wd zs∧0≤s∧s<b∧val xs=b*val zs+s:=by
  intro i
  induction i with
  | zero =>
    intro qs r _ hl hq h0 h1 hv k hk
    obtain ⟨k,rfl⟩:∃ m,k=m+1:=⟨k-1,by omega⟩
    refine ⟨qs,r,?_,hl,hq,h0,h1,by simpa using hv⟩
    simp only [ample_small.l0]
    rw [if_neg (by omega),Int.emod_eq_of_lt h0 (by omega)]
  | succ i ih =>
    intro qs r hi hl hq h0 h1 hv k hk
    obtain ⟨k,rfl⟩:∃ m,k=m+1:=⟨k-1,by omega⟩
    have e1:(((i+1:Nat):Int)-1)=(i:Int):=by omega
    rw [e1]
    have hxi:=hx.rd (i:Int)
    have hor:=or_join r (rd xs (i:Int)) ⟨h0,by omega⟩ hxi
    have hbw:IntKind.u64.wrap b=b:=u64w (by omega) (by omega)
    have hs0:0≤r*4294967296+rd xs (i:Int):=by omega
    have hq1:(r*4294967296+rd xs (i:Int))/b<4294967296:=Int.ediv_lt_of_lt_mul hb0 (by
      have:r*4294967296+4294967296≤b*4294967296:=by omega
      omega)
    have hq0:0≤(r*4294967296+rd xs (i:Int))/b:=Int.ediv_nonneg hs0 (by omega)
    have ediv:IntKind.u64.wrap (Int.tdiv (r*4294967296+rd xs (i:Int)) b)%4294967296=(r*4294967296+rd xs (i:Int))/b:=by
      rw [Int.tdiv_eq_ediv_of_nonneg hs0,u64w hq0 (by omega),Int.emod_eq_of_lt hq0 hq1]
    simp only [ample_small.l0]
    rw [if_pos (by omega),if_pos (by omega),if_pos (by omega),hbw,if_neg (by omega),if_pos (by omega),hor,ediv,Int.tmod_eq_emod_of_nonneg hs0,Int.toNat_natCast,w64 (by omega) (by omega)]
    refine ih _ _ (by omega) (by rw [List.length_set]; exact hl) (zbX hq _ hq0 hq1) (Int.emod_nonneg _ (by omega)) (Int.emod_lt_of_pos _ hb0) ?_ k (by omega)
    rw [zdz (by omega),zcF (by omega)]
    simp only [val]
    rw [hv]
    have:=Int.emod_add_mul_ediv (r*4294967296+rd xs (i:Int)) b
    generalize (r*4294967296+rd xs (i:Int))/b=q at this ⊢
    generalize (r*4294967296+rd xs (i:Int))%b=s at this ⊢
    generalize rd xs (i:Int)=x at this ⊢
    generalize val (qs.drop (i+1))=Q
    grind
theorem small_tells (xs:List Int) (b:Int) (hx:Wd xs) (hb0:0<b) (hb1:b<4294967296) (hm:xs.length≤34359738369):∃ k zs s,ample_small.f k xs b=some (zs,s)∧zs.length=xs.length∧Wd zs∧0≤s∧s<b∧val xs=b*val zs+s:=by
  obtain ⟨zs,s,h1,h2⟩:=small_loop xs b hx hb0 hb1 (by omega) xs.length (List.replicate xs.length 0) 0 (Nat.le_refl _) (by simp) (zch _) (Int.le_refl _) hb0 (by rw [List.drop_eq_nil_of_le (Nat.le_refl _),List.drop_eq_nil_of_le (by simp)]; simp [val]) (xs.length+1) (by omega)
  refine ⟨xs.length+1,zs,s,?_,h2⟩
  unfold ample_small.f
  rw [if_pos (by omega),if_pos (by omega),Int.toNat_natCast,w64 (by omega) (by omega)]
  exact h1
theorem or_lo (a m:Int) (n:Nat) (hn:n≤31) (ha:0≤a∧a<2^n) (hm:0≤m∧m<4294967296) (hd:m%2^n=0):Go.bits .or .u32 a m=a+m:=by
  obtain ⟨A,rfl⟩:=Int.eq_ofNat_of_zero_le ha.1
  obtain ⟨M,rfl⟩:=Int.eq_ofNat_of_zero_le hm.1
  have hp:(2:Nat)^n≤2^31:=Nat.pow_le_pow_right (by decide) hn
  have hA:A<2^n:=by have:=ha.2; rw [show (2:Int)^n=((2^n:Nat):Int) by simp] at this; omega
  have hM:M%2^n=0:=by rw [show (2:Int)^n=((2^n:Nat):Int) by simp] at hd; omega
  rw [u32_or_nat _ _ (by omega) (by omega)]
  have h1:=Nat.shiftLeft_add_eq_or_of_lt (i:=n) (b:=A) hA (M/2^n)
  rw [Nat.shiftLeft_eq,Nat.div_mul_cancel (Nat.dvd_of_mod_eq_zero hM)] at h1
  rw [Nat.or_comm,←h1]
  omega
theorem left_loop (xs:List Int) (n:Nat) (hn:n≤31) (hx:Wd xs) (hm:xs.length≤9223372036854775806):∀ (d i:Nat) (zs:List Int),d=xs.length-i→i≤xs.length→zs.length=xs.length+1→Wd zs→rd zs (i:Int)<2^n→val (zs.take (i+1))=val (xs.take i)*2^n→(∀ j,i<j→rd zs (j:Int)=0) →
    ∀ k,d<k→∃ r,ample_left.l0 k (n:Int) zs xs (xs.length:Int) (i:Int)=some r∧r.length=xs.length+1∧Wd r∧val r=val xs*2^n:=by
  intro d
  induction d with
  | zero =>
    intro i zs hd hi hl hz h1 hv h0 k hk
    obtain ⟨k,rfl⟩:∃ m,k=m+1:=⟨k-1,by omega⟩
    refine ⟨zs,?_,hl,hz,?_⟩
    · simp only [ample_left.l0]
      rw [if_neg (by omega)]
    · have:i=xs.length:=by omega
      subst this
      rwa [List.take_of_length_le (by omega),List.take_length] at hv
  | succ d ih =>
    intro i zs hd hi hl hz h1 hv h0 k hk
    obtain ⟨k,rfl⟩:∃ m,k=m+1:=⟨k-1,by omega⟩
    have a1:(i:Int)<(xs.length:Int):=by omega
    have a2:0≤(i:Int):=by omega
    have a3:0≤(n:Int):=by omega
    have a4:(i:Int)<(zs.length:Int):=by omega
    have a5:0≤((i+1:Nat):Int):=by omega
    have a6:((i+1:Nat):Int)<(zs.length:Int):=by omega
    have E1:=Lib.hid (show wrap64 ((i:Int)+1)=((i+1:Nat):Int) by rw [w64 (by omega) (by omega)]; omega)
    have b1:i<zs.length:=by omega
    have b2:i+1<zs.length:=by omega
    have b3:i<xs.length:=by omega
    have b4:d<k:=by omega
    have b5:d=xs.length-(i+1):=by omega
    have hzn:rd zs ((i+1:Nat):Int)=0:=h0 (i+1) (by omega)
    have hxi:=hx.rd (i:Int)
    have hzi:=hz.rd (i:Int)
    have hp:(2:Int)^n≤2147483648:=by
      have:(2:Nat)^n≤2^31:=Nat.pow_le_pow_right (by decide) hn
      rw [show (2:Int)^n=((2^n:Nat):Int) by simp]; omega
    have hp0:(0:Int)<2^n:=Int.pow_pos (by decide)
    have hm0:0≤rd xs (i:Int)*2^n:=Int.mul_nonneg hxi.1 (by omega)
    have hm1:rd xs (i:Int)*2^n<4294967296*2147483648:=by
      have:=Int.mul_le_mul (show rd xs (i:Int)≤4294967295 by omega) hp (by omega) (by decide)
      omega
    have hsh0:shl .u64 (IntKind.u64.wrap (rd xs (i:Int))) (n:Int)=rd xs (i:Int)*2^n:=by
      unfold shl
      rw [show IntKind.u64.wrap (rd xs (i:Int))=rd xs (i:Int) from u64w (by omega) (by omega),Int.toNat_natCast,Nat.min_eq_left (by show n≤64; omega),u64w hm0 (by omega)]
    have HSH:=Lib.hid hsh0
    clear hsh0
    have hmod:(rd xs (i:Int)*2^n%4294967296)%2^n=0:=by
      have hdv:(2:Int)^n∣4294967296:=⟨2^(32-n),by rw [←Int.pow_add,show n+(32-n)=32 by omega]; simp⟩
      rw [Int.emod_emod_of_dvd _ hdv]
      exact Int.mul_emod_left _ _
    have hor0:=or_lo (rd zs (i:Int)) (rd xs (i:Int)*2^n%4294967296) n hn ⟨hzi.1,h1⟩ ⟨by omega,by omega⟩ hmod
    have hlo2:rd zs (i:Int)+rd xs (i:Int)*2^n%4294967296<4294967296:=by
      have:=bits_hi_u32 .or (rd zs (i:Int)) (rd xs (i:Int)*2^n%4294967296)
      rw [hor0] at this
      clear hor0
      omega
    have HOR:=Lib.hid hor0
    clear hor0
    have hhi0:0≤rd xs (i:Int)*2^n/4294967296:=by omega
    have hhi2:rd xs (i:Int)*2^n<4294967296*2^n:=Int.mul_lt_mul_of_pos_right hxi.2 hp0
    have hhi1:rd xs (i:Int)*2^n/4294967296<2^n:=by omega
    have hlo1:=hlo2
    simp only [ample_left.l0]
    have hhi3:rd xs (i:Int)*2^n/4294967296<4294967296:=by omega
    have hlo0:0≤rd zs (i:Int)+rd xs (i:Int)*2^n%4294967296:=by omega
    rw [if_pos a1,if_pos a2,if_pos a1,if_pos a3,if_pos a4,E1.out,if_pos a5,if_pos a6,HSH.out,HOR.out,Int.toNat_natCast,Int.toNat_natCast,Int.emod_eq_of_lt hhi0 hhi3]
    clear HSH HOR hm1 hp hhi2 hmod
    refine ih (i+1) _ b5 (by omega) (by simp [hl]) (zbX (zbX hz _ hlo0 hlo1) _ hhi0 hhi3) ?_ ?_ ?_ k b4
    · rw [rd_lt (by simp; exact b2)]; simpa using hhi1
    · have hs1:val ((zs.set i (rd zs (i:Int)+rd xs (i:Int)*2^n%4294967296)).take (i+1+1))=val (zs.take (i+1))+4294967296^i*(rd xs (i:Int)*2^n%4294967296):=by
        rw [zc6 (by omega) (by omega),zaw (xs:=zs) (i:=i+1) b2,hzn]
        grind
      rw [zc6 (by omega) (by simp; omega),hs1,hv,zaw (xs:=xs) (by omega)]
      have hr0:rd (zs.set i (rd zs (i:Int)+rd xs (i:Int)*2^n%4294967296)) ((i+1:Nat):Int)=0:=by rw [zdp (by omega),hzn]
      rw [hr0,Int.pow_succ]
      have:=Int.emod_add_mul_ediv (rd xs (i:Int)*2^n) 4294967296
      generalize rd xs (i:Int)*2^n%4294967296=q at this ⊢
      generalize rd xs (i:Int)*2^n/4294967296=s at this ⊢
      grind
    · intro j hj
      rw [zdp (by omega),zdp (by omega)]
      exact h0 j (by omega)
theorem left_tells (xs:List Int) (n:Nat) (hn:n≤31) (hx:Wd xs) (hm:xs.length≤34359738369):∃ k r,ample_left.f k xs (n:Int)=some r∧r.length=xs.length+1∧Wd r∧val r=val xs*2^n:=by
  obtain ⟨r,h1,h2⟩:=left_loop xs n hn hx (by omega) xs.length 0 (List.replicate (xs.length+1) 0) (by omega) (by omega) (by simp) (zch _) (by
      rw [←zaX,List.getD_eq_getElem?_getD,List.getElem?_replicate,if_pos (by omega)]
      exact Int.pow_pos (by decide)) (by rw [List.take_replicate,val_zeros]; simp [val]) (fun j _=>by
      rw [←zaX,List.getD_eq_getElem?_getD,List.getElem?_replicate]; split<;>rfl) (xs.length+1) (by omega)
  refine ⟨xs.length+1,r,?_,h2⟩
  have e1:wrap64 ((xs.length:Int)+1)=((xs.length+1:Nat):Int):=by rw [w64 (by omega) (by omega)]; omega
  unfold ample_left.f
  rw [e1,if_pos (Int.natCast_nonneg _),Int.toNat_natCast]
  clear e1
  rw [if_pos (by omega)]
  exact h1
theorem shr_eq (x:Int) (n:Nat) (hn:n≤31):shr .u64 x (n:Int)=x/2^n:=by
  unfold shr
  rw [Int.toNat_natCast,Nat.min_eq_left (by show n≤64; omega)]
theorem pow_split (n:Nat) (hn:n≤31):∃ Q:Int,0<Q∧(4294967296:Int)=2^n*Q:=by
  refine ⟨2^(32-n),Int.pow_pos (by decide),?_⟩
  rw [←Int.pow_add,show n+(32-n)=32 by omega]; simp
theorem right_step {D Q x y T q:Int} (hD:0<D) (hB:(4294967296:Int)=D*Q) (hQ:0<Q) (hx0:0≤x) (hx1:x<4294967296) (hy0:0≤y) (hT:0≤T) (hy:T=y+4294967296*q) :
    (x+4294967296*T)/D=(y*4294967296+x)/D%4294967296+4294967296*(T/D):=by
  have e1:T=D*(T/D)+T%D:=(Int.mul_ediv_add_emod T D).symm
  have e2:T%D=y%D:=by rw [hy,hB,Int.mul_assoc,Int.add_mul_emod_self_left]
  have e3:y=D*(y/D)+y%D:=(Int.mul_ediv_add_emod y D).symm
  have t0:=Int.emod_nonneg y (Int.ne_of_gt hD)
  have t1:=Int.emod_lt_of_pos y hD
  rw [e2] at e1
  generalize hu:T/D=u at e1 ⊢
  generalize hv:y/D=v at e3 ⊢
  generalize y%D=t at e1 e3 t0 t1 e2
  have e4:(x+4294967296*T)/D=4294967296*u+(x+4294967296*t)/D:=by
    rw [e1,show x+4294967296*(D*u+t)=(x+4294967296*t)+D*(4294967296*u) by grind,Int.add_mul_ediv_left _ _ (Int.ne_of_gt hD)]
    omega
  have e5:(y*4294967296+x)/D=4294967296*v+(x+4294967296*t)/D:=by
    rw [e3,show (D*v+t)*4294967296+x=(x+4294967296*t)+D*(4294967296*v) by grind,Int.add_mul_ediv_left _ _ (Int.ne_of_gt hD)]
    omega
  have e6:(x+4294967296*t)/D<4294967296:=Int.ediv_lt_of_lt_mul hD (by
    have:4294967296*t≤4294967296*(D-1):=Int.mul_le_mul_of_nonneg_left (by omega) (by decide)
    have e:4294967296*(D-1)=4294967296*D-4294967296:=by omega
    have e':(4294967296:Int)*D=D*4294967296:=Int.mul_comm _ _
    omega)
  have e7:0≤(x+4294967296*t)/D:=Int.ediv_nonneg (by omega) (by omega)
  rw [e4,e5]
  omega
theorem right_loop (xs : List Int) (n : Nat) (hn : n ≤ 31) (hx : Wd xs) (hm : xs.length ≤ 9223372036854775806) : ∀ (d i : Nat) (zs : List Int), d = xs.length - i → i ≤ xs.length → zs.length = xs.length → Wd zs →
    ∀ k,d<k→∃ r,ample_right.l0 k xs (n:Int) zs xs (xs.length:Int) (i:Int)=some r∧r.length=xs.length∧Wd r∧r.take i=zs.take i∧val (r.drop i)=val (xs.drop i)/2^n:=by
  intro d
  induction d with
  | zero =>
    intro i zs hd hi hl hz k hk
    obtain ⟨k,rfl⟩:∃ m,k=m+1:=⟨k-1,by omega⟩
    refine ⟨zs,?_,hl,hz,rfl,?_⟩
    · simp only [ample_right.l0]
      rw [if_neg (by omega)]
    · rw [List.drop_eq_nil_of_le (by omega),List.drop_eq_nil_of_le (by omega)]
      simp [val]
  | succ d ih =>
    intro i zs hd hi hl hz k hk
    obtain ⟨k,rfl⟩:∃ m,k=m+1:=⟨k-1,by omega⟩
    have a1:(i:Int)<(xs.length:Int):=by omega
    have a2:0≤(i:Int):=by omega
    have a3:0≤(n:Int):=by omega
    have a4:(i:Int)<(zs.length:Int):=by omega
    have a5:0≤((i+1:Nat):Int):=by omega
    have b1:i<zs.length:=by omega
    have b3:i<xs.length:=by omega
    have b4:d<k:=by omega
    have b5:d=xs.length-(i+1):=by omega
    have b6:i+1≤xs.length:=by omega
    have E1:=Lib.hid (show wrap64 ((i:Int)+1)=((i+1:Nat):Int) by rw [w64 (by omega) (by omega)]; omega)
    have hxi:=hx.rd (i:Int)
    have hyi:=hx.rd ((i+1:Nat):Int)
    obtain ⟨Q,hQ0,hQ⟩:=pow_split n hn
    have hp0:(0:Int)<2^n:=Int.pow_pos (by decide)
    have hTn:=zaA (hx.drop (i+1))
    have hT:∃ q,val (xs.drop (i+1))=rd xs ((i+1:Nat):Int)+4294967296*q:=by
      by_cases h:i+1<xs.length
      · rw [zcF h]; exact ⟨_,rfl⟩
      · rw [List.drop_eq_nil_of_le (by omega)]
        refine ⟨0,?_⟩
        rw [←zaX,List.getD_eq_getElem?_getD,List.getElem?_eq_none (by omega)]; rfl
    obtain ⟨q,hq⟩:=hT
    have hstep:=right_step hp0 hQ hQ0 hxi.1 hxi.2 hyi.1 hTn hq
    have hd0:0≤(rd xs ((i+1:Nat):Int)*4294967296+rd xs (i:Int))/2^n%4294967296:=Int.emod_nonneg _ (by decide)
    have hd1:(rd xs ((i+1:Nat):Int)*4294967296+rd xs (i:Int))/2^n%4294967296<4294967296:=Int.emod_lt_of_pos _ (by decide)
    obtain ⟨r,h1,h2,h3,h4,h5⟩:=ih (i+1) (zs.set i ((rd xs ((i+1:Nat):Int)*4294967296+rd xs (i:Int))/2^n%4294967296)) b5 b6 (by rw [List.length_set]; exact hl) (zbX hz _ hd0 hd1) k b4
    have hrl:i<r.length:=by rw [h2]; exact b3
    have hri:rd r (i:Int)=(rd xs ((i+1:Nat):Int)*4294967296+rd xs (i:Int))/2^n%4294967296:=by
      have e:=congrArg (fun l=>l[i]?) h4
      simp only [List.getElem?_take,if_pos (Nat.lt_succ_self i),List.getElem?_set_self b1] at e
      rw [←zaX,List.getD_eq_getElem?_getD,e]; rfl
    refine ⟨r,?_,h2,h3,?_,?_⟩
    · simp only [ample_right.l0]
      rw [if_pos a1,if_pos a2,if_pos a1,E1.out]
      by_cases h:((i+1:Nat):Int)<(xs.length:Int)
      · rw [if_pos h,if_pos a5,if_pos a3,if_pos a4]
        have hw:IntKind.u64.wrap (IntKind.u64.wrap (rd xs ((i+1:Nat):Int))*4294967296)=IntKind.u64.wrap (rd xs ((i+1:Nat):Int)*4294967296):=by rw [show IntKind.u64.wrap (rd xs ((i+1:Nat):Int))=rd xs ((i+1:Nat):Int) from u64w hyi.1 (by omega)]
        rw [hw,or_join_hi _ _ hyi hxi,shr_eq _ n hn,Int.toNat_natCast]
        exact h1
      · rw [if_neg h,if_pos a3,if_pos a4]
        have hy0:rd xs ((i+1:Nat):Int)=0:=by rw [←zaX,List.getD_eq_getElem?_getD,List.getElem?_eq_none (by omega)]; rfl
        rw [show IntKind.u64.wrap (rd xs (i:Int))=rd xs (i:Int) from u64w hxi.1 (by omega),shr_eq _ n hn,Int.toNat_natCast]
        rw [hy0,Int.zero_mul,Int.zero_add] at h1
        exact h1
    · have e:=congrArg (List.take i) h4
      rw [List.take_take,List.take_take,Nat.min_eq_left (Nat.le_succ i),List.take_set_of_le (Nat.le_refl i)] at e
      exact e
    · rw [zcF hrl,zcF b3,hri]
      simp only [val]
      rw [h5]
      exact hstep.symm
theorem right_tells (xs:List Int) (n:Nat) (hn:n≤31) (hx:Wd xs) (hm:xs.length≤34359738369):∃ k r,ample_right.f k xs (n:Int)=some r∧r.length=xs.length∧Wd r∧val r=val xs/2^n:=by
  obtain ⟨r,h1,h2,h3,_,h5⟩:=right_loop xs n hn hx (by omega) xs.length 0 (List.replicate xs.length 0) (by omega) (by omega) (by simp) (zch _) (xs.length+1) (by omega)
  refine ⟨xs.length+1,r,?_,h2,h3,by simpa using h5⟩
  unfold ample_right.f
  rw [if_pos (Int.natCast_nonneg _),Int.toNat_natCast,if_pos (by omega)]
  exact h1
theorem small_calls (A:Option Addr) (c:Nat) (xs:List Int) (b:Int) (w:World) (hw:WAt w A c xs) (hx:Wd xs) (hb0:0<b) (hb1:b<4294967296) (hm:xs.length≤34359738369) :
    Calls Tryz.prog 189 #[.slice A xs.length c,.int .u32 b] w fun e w'=>∃ (A':Option Addr) (c':Nat) (zs:List Int) (s:Int),e = .returned (.tuple #[.slice A' zs.length c',.int .u32 s])∧WAt w' A' c' zs∧Wd zs∧zs.length=xs.length∧0≤s∧s<b∧val xs=b*val zs+s∧Below w.heap.size w w':=by
  obtain ⟨k,zs,s,h,hl,hd,h0,h1,hv⟩:=small_tells xs b hx hb0 hb1 hm
  refine (ample_small.calls k A c xs b zs s w hw.row hw.le h).mono fun e w' ⟨v,he,hr,hb⟩ => ?_
  obtain ⟨A',c',rfl,hW⟩:=WAt.of_R hr
  exact ⟨A',c',zs,s,he,hW,hd,hl,h0,h1,hv,hb⟩
theorem left_calls (A:Option Addr) (c:Nat) (xs:List Int) (n:Nat) (w:World) (hw:WAt w A c xs) (hx:Wd xs) (hn:n≤31) (hm:xs.length≤34359738369) :
    Calls Tryz.prog 244 #[.slice A xs.length c,.int .i64 n] w fun e w'=>∃ (v:Value) (zs:List Int),e = .returned v∧OwnW w' w.heap.size v zs∧Wd zs∧zs.length=xs.length+1∧val zs=val xs*2^n∧Below w.heap.size w w':=by
  obtain ⟨k,zs,h,hl,hd,hv⟩:=left_tells xs n hn hx hm
  refine (ample_left.calls k A c xs n zs w hw.row hw.le h).mono fun e w' ⟨v,he,hr,hb⟩ => ?_
  exact ⟨v,zs,he,own_of_R hr,hd,hl,hv,hb⟩
theorem right_calls (A:Option Addr) (c:Nat) (xs:List Int) (n:Nat) (w:World) (hw:WAt w A c xs) (hx:Wd xs) (hn:n≤31) (hm:xs.length≤34359738369) :
    Calls Tryz.prog 246 #[.slice A xs.length c,.int .i64 n] w fun e w'=>∃ (A':Option Addr) (c':Nat) (zs:List Int),e = .returned (.slice A' zs.length c')∧WAt w' A' c' zs∧Wd zs∧zs.length=xs.length∧val zs=val xs/2^n∧Below w.heap.size w w':=by
  obtain ⟨k,zs,h,hl,hd,hv⟩:=right_tells xs n hn hx hm
  refine (ample_right.calls k A c xs n zs w hw.row hw.le h).mono fun e w' ⟨v,he,hr,hb⟩ => ?_
  obtain ⟨A',c',rfl,hW⟩:=WAt.of_R hr
  exact ⟨A',c',zs,he,hW,hd,hl,hv,hb⟩
end Go.Proofs.P9
end
