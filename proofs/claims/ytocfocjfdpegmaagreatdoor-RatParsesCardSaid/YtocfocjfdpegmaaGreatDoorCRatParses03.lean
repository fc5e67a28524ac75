/- Texts under the proof, joined by a program (prune.py): HAdd, HMul, P17, P22. -/
import Derived.Test.YtocfocjfdpegmaaGreatDoorCRatParses02
import Derived.StillTailTactics
set_option linter.unusedVariables false
set_option linter.unusedSimpArgs false
set_option exponentiation.threshold 20001
set_option maxHeartbeats 8000000
set_option maxRecDepth 100000
section
namespace Go.Proofs.ZP
open Go.RowKit Go.Proofs.ZW.Wa
theorem zai (w:World) (n:Nat):Below w.heap.size w (w.drewN n):=zab (Below.refl _ _) n
theorem bthen {w w1 w2:World} (h:Below w.heap.size w w1) (k:Below w1.heap.size w1 w2):Below w.heap.size w w2:=below_then h h.size k
theorem zaQ {xs ys:List Int} (hx:Wd xs) (hy:Wd ys) (ty:ys.getLast? ≠ some 0) (h:val ys≤val xs):ys.length≤xs.length:=by
 apply Classical.byContradiction
 intro hn
 have:=zb7 hx hy ty (by omega)
 omega
theorem za7 {r a:Int} (h:r.sign=a.sign):0≤r↔0≤a:=by
 rcases zaM r with ⟨h1,h2⟩|⟨h1,h2⟩|⟨h1,h2⟩<;>rcases zaM a with ⟨k1,k2⟩|⟨k1,k2⟩|⟨k1,k2⟩<;>rw [h1,k1] at h<;>first|(exfalso; revert h; decide)|omega
theorem add_same_true (b o b1 o1 b2 o2:Nat) (x y:Int) (w:World) (hz:Slot w b o) (hx:IntAt w b1 o1 x) (hy:IntAt w b2 o2 y) (hd1:b1≠b∨o1+2≤o∨o+2≤o1) (hd2:b2≠b∨o2+2≤o∨o+2≤o2) {n:Nat} (hs:Bd n x) (ht:Bd n y) (hn:n≤big) (hx0:x<0) (hy0:y<0) :
  Calls Tryz.prog 164 #[.pointer (some ⟨b,o,none⟩),.pointer (some ⟨b1,o1,none⟩),.pointer (some ⟨b2,o2,none⟩)] w fun e w'=>e = .returned (.pointer (some ⟨b,o,none⟩))∧IntAt w' b o (x+y)∧Upd w w' b o (o+2):=by
 obtain ⟨neg,A,c,ws,h1,h2,h3,h4⟩:=hx.out
 obtain ⟨neg',A',c',ws',k1,k2,k3,k4⟩:=hy.out
 have hl1:ws.length≤34359738368:=h4.small hs hn
 have hl2:ws'.length≤34359738368:=k4.small ht hn
 have ex:=h4.eq
 have ey:=k4.eq
 clear hs ht
 have hneg:neg=true:=h4.neg_iff.2 hx0
 have hneg':neg'=true:=k4.neg_iff.2 hy0
 subst hneg; subst hneg'
 have hk:sg true (val ws+val ws')=x+y:=by rw [ex,ey]; unfold sg; simp<;>omega
 have HK:=Lib.hid hk
 have LL1:=Lib.hid (show ws.length≤35184372088832 by omega)
 have LL2:=Lib.hid (show ws'.length≤35184372088832 by omega)
 clear ex ey hk
 go_enter Tryz.func164,Tryz.ntmps164
 go_wp2_with fail
 go_quiet (fail)
 generalize hq:w.drewN _=w1
 have HB1:=Lib.hid (show Below w.heap.size w w1 from by subst hq; exact zai _ _)
 have g1:w1.cell? ⟨b1,o1,none⟩=some (.bool true):=by subst hq; exact h1
 have g2:w1.cell? ⟨b1,o1+1,none⟩=some (.slice A ws.length c):=by subst hq; exact h2
 have g3:w1.cell? ⟨b2,o2,none⟩=some (.bool true):=by subst hq; exact k1
 have g4:w1.cell? ⟨b2,o2+1,none⟩=some (.slice A' ws'.length c'):=by subst hq; exact k2
 clear hq h1 h2 k1 k2
 go_wp2_with fail
 go_region_held3 (fun w'=>w'.cell? ⟨b1,o1,none⟩=some (.bool true)∧w'.cell? ⟨b1,o1+1,none⟩=some (.slice A ws.length c)∧w'.cell? ⟨b2,o2,none⟩=some (.bool true)∧w'.cell? ⟨b2,o2+1,none⟩=some (.slice A' ws'.length c'))
  (first|go_keep|exact ⟨g1,g2,g3,g4⟩|exact ⟨zay g1 (bthen (zac w1) hb2) hu3 (hz.upd (Upd.of_below (bthen (bthen HB1.out (zac _)) hb2) 0 0 0)) (by omega),zay g2 (bthen (zac w1) hb2) hu3 (hz.upd (Upd.of_below (bthen (bthen HB1.out (zac _)) hb2) 0 0 0)) (by omega),zay g3 (bthen (zac w1) hb2) hu3 (hz.upd (Upd.of_below (bthen (bthen HB1.out (zac _)) hb2) 0 0 0)) (by omega),zay g4 (bthen (zac w1) hb2) hu3 (hz.upd (Upd.of_below (bthen (bthen HB1.out (zac _)) hb2) 0 0 0)) (by omega)⟩|exact ⟨((bthen (zac w1) hb2).cell (World.block_lt_of_cell? _ _ g1)).trans g1,((bthen (zac w1) hb2).cell (World.block_lt_of_cell? _ _ g2)).trans g2,((bthen (zac w1) hb2).cell (World.block_lt_of_cell? _ _ g3)).trans g3,((bthen (zac w1) hb2).cell (World.block_lt_of_cell? _ _ g4)).trans g4⟩)
  ((first
   | (go_simp; go_at_call 220; refine (zcJ A c ws A' c' ws' _ (h3.below (bthen HB1.out (zac _))) (k3.below (bthen HB1.out (zac _))) h4.wd k4.wd LL1.out LL2.out).mono ?_; rintro e w2 ⟨A2,c2,zs,rfl,hw2,hz2,hv2,hzl2,hb2⟩; have HV2:=Lib.hid hv2; clear hv2 hzl2)
   | (go_simp; go_at_call 136; refine (zax b o true A2 c2 zs _ (hz.upd (Upd.of_below (bthen (bthen HB1.out (zac _)) hb2) 0 0 0)) hw2 hz2).mono ?_; rintro e w3 ⟨rfl,hx3,hu3⟩)))
 all_goals
  have hfin:sg true (val zs)=x+y:=by rw [HV2.out]; exact HK.out
  rw [hfin] at hx3
  go_wp2
  go_ret
  exact ⟨rfl,hx3,(((Upd.of_below HB1.out _ _ _).trans (Upd.of_below (zac _) _ _ _)).trans (Upd.of_below hb2 _ _ _)).trans hu3⟩
theorem add_same_false (b o b1 o1 b2 o2:Nat) (x y:Int) (w:World) (hz:Slot w b o) (hx:IntAt w b1 o1 x) (hy:IntAt w b2 o2 y) (hd1:b1≠b∨o1+2≤o∨o+2≤o1) (hd2:b2≠b∨o2+2≤o∨o+2≤o2) {n:Nat} (hs:Bd n x) (ht:Bd n y) (hn:n≤big) (hx0:0≤x) (hy0:0≤y) :
  Calls Tryz.prog 164 #[.pointer (some ⟨b,o,none⟩),.pointer (some ⟨b1,o1,none⟩),.pointer (some ⟨b2,o2,none⟩)] w fun e w'=>e = .returned (.pointer (some ⟨b,o,none⟩))∧IntAt w' b o (x+y)∧Upd w w' b o (o+2):=by
 obtain ⟨neg,A,c,ws,h1,h2,h3,h4⟩:=hx.out
 obtain ⟨neg',A',c',ws',k1,k2,k3,k4⟩:=hy.out
 have hl1:ws.length≤34359738368:=h4.small hs hn
 have hl2:ws'.length≤34359738368:=k4.small ht hn
 have ex:=h4.eq
 have ey:=k4.eq
 clear hs ht
 have hneg:neg=false:=by cases neg; rfl; exact absurd (h4.neg_iff.1 rfl) (by omega)
 have hneg':neg'=false:=by cases neg'; rfl; exact absurd (k4.neg_iff.1 rfl) (by omega)
 subst hneg; subst hneg'
 have hk:sg false (val ws+val ws')=x+y:=by rw [ex,ey]; unfold sg; simp<;>omega
 have HK:=Lib.hid hk
 have LL1:=Lib.hid (show ws.length≤35184372088832 by omega)
 have LL2:=Lib.hid (show ws'.length≤35184372088832 by omega)
 clear ex ey hk
 go_enter Tryz.func164,Tryz.ntmps164
 go_wp2_with fail
 go_quiet (fail)
 generalize hq:w.drewN _=w1
 have HB1:=Lib.hid (show Below w.heap.size w w1 from by subst hq; exact zai _ _)
 have g1:w1.cell? ⟨b1,o1,none⟩=some (.bool false):=by subst hq; exact h1
 have g2:w1.cell? ⟨b1,o1+1,none⟩=some (.slice A ws.length c):=by subst hq; exact h2
 have g3:w1.cell? ⟨b2,o2,none⟩=some (.bool false):=by subst hq; exact k1
 have g4:w1.cell? ⟨b2,o2+1,none⟩=some (.slice A' ws'.length c'):=by subst hq; exact k2
 clear hq h1 h2 k1 k2
 go_wp2_with fail
 go_region_held3 (fun w'=>w'.cell? ⟨b1,o1,none⟩=some (.bool false)∧w'.cell? ⟨b1,o1+1,none⟩=some (.slice A ws.length c)∧w'.cell? ⟨b2,o2,none⟩=some (.bool false)∧w'.cell? ⟨b2,o2+1,none⟩=some (.slice A' ws'.length c'))
  (first|go_keep|exact ⟨g1,g2,g3,g4⟩|exact ⟨zay g1 (bthen (zac w1) hb2) hu3 (hz.upd (Upd.of_below (bthen (bthen HB1.out (zac _)) hb2) 0 0 0)) (by omega),zay g2 (bthen (zac w1) hb2) hu3 (hz.upd (Upd.of_below (bthen (bthen HB1.out (zac _)) hb2) 0 0 0)) (by omega),zay g3 (bthen (zac w1) hb2) hu3 (hz.upd (Upd.of_below (bthen (bthen HB1.out (zac _)) hb2) 0 0 0)) (by omega),zay g4 (bthen (zac w1) hb2) hu3 (hz.upd (Upd.of_below (bthen (bthen HB1.out (zac _)) hb2) 0 0 0)) (by omega)⟩|exact ⟨((bthen (zac w1) hb2).cell (World.block_lt_of_cell? _ _ g1)).trans g1,((bthen (zac w1) hb2).cell (World.block_lt_of_cell? _ _ g2)).trans g2,((bthen (zac w1) hb2).cell (World.block_lt_of_cell? _ _ g3)).trans g3,((bthen (zac w1) hb2).cell (World.block_lt_of_cell? _ _ g4)).trans g4⟩)
  ((first
   | (go_simp; go_at_call 220; refine (zcJ A c ws A' c' ws' _ (h3.below (bthen HB1.out (zac _))) (k3.below (bthen HB1.out (zac _))) h4.wd k4.wd LL1.out LL2.out).mono ?_; rintro e w2 ⟨A2,c2,zs,rfl,hw2,hz2,hv2,hzl2,hb2⟩; have HV2:=Lib.hid hv2; clear hv2 hzl2)
   | (go_simp; go_at_call 136; refine (zax b o false A2 c2 zs _ (hz.upd (Upd.of_below (bthen (bthen HB1.out (zac _)) hb2) 0 0 0)) hw2 hz2).mono ?_; rintro e w3 ⟨rfl,hx3,hu3⟩)))
 all_goals
  have hfin:sg false (val zs)=x+y:=by rw [HV2.out]; exact HK.out
  rw [hfin] at hx3
  go_wp2
  go_ret
  exact ⟨rfl,hx3,(((Upd.of_below HB1.out _ _ _).trans (Upd.of_below (zac _) _ _ _)).trans (Upd.of_below hb2 _ _ _)).trans hu3⟩
theorem add_true_false_ge (b o b1 o1 b2 o2:Nat) (x y:Int) (w:World) (hz:Slot w b o) (hx:IntAt w b1 o1 x) (hy:IntAt w b2 o2 y) (hd1:b1≠b∨o1+2≤o∨o+2≤o1) (hd2:b2≠b∨o2+2≤o∨o+2≤o2) {n:Nat} (hs:Bd n x) (ht:Bd n y) (hn:n≤big) (hx0:x<0) (hy0:0≤y) (hxy:x+y≤0) :
  Calls Tryz.prog 164 #[.pointer (some ⟨b,o,none⟩),.pointer (some ⟨b1,o1,none⟩),.pointer (some ⟨b2,o2,none⟩)] w fun e w'=>e = .returned (.pointer (some ⟨b,o,none⟩))∧IntAt w' b o (x+y)∧Upd w w' b o (o+2):=by
 obtain ⟨neg,A,c,ws,h1,h2,h3,h4⟩:=hx.out
 obtain ⟨neg',A',c',ws',k1,k2,k3,k4⟩:=hy.out
 have hl1:ws.length≤34359738368:=h4.small hs hn
 have hl2:ws'.length≤34359738368:=k4.small ht hn
 have ex:=h4.eq
 have ey:=k4.eq
 clear hs ht
 have hneg:neg=true:=h4.neg_iff.2 hx0
 have hneg':neg'=false:=by cases neg'; rfl; exact absurd (k4.neg_iff.1 rfl) (by omega)
 subst hneg; subst hneg'
 have hva:=h4.val_eq
 have hvb:=k4.val_eq
 have hk:sg true (val ws-val ws')=x+y:=by rw [ex,ey]; unfold sg; simp<;>omega
 have hle:val ws'≤val ws:=by omega
 have HK:=Lib.hid hk
 have HLE:=Lib.hid hle
 have HLL:=Lib.hid (show ws'.length≤ws.length from zaQ h4.wd k4.wd k4.top hle)
 have LL1:=Lib.hid (show ws.length≤35184372088832 by omega)
 have LL2:=Lib.hid (show ws'.length≤35184372088832 by omega)
 clear ex ey hk hle hva hvb
 go_enter Tryz.func164,Tryz.ntmps164
 go_wp2_with fail
 go_quiet (fail)
 generalize hq:w.drewN _=w1
 have HB1:=Lib.hid (show Below w.heap.size w w1 from by subst hq; exact zai _ _)
 have g1:w1.cell? ⟨b1,o1,none⟩=some (.bool true):=by subst hq; exact h1
 have g2:w1.cell? ⟨b1,o1+1,none⟩=some (.slice A ws.length c):=by subst hq; exact h2
 have g3:w1.cell? ⟨b2,o2,none⟩=some (.bool false):=by subst hq; exact k1
 have g4:w1.cell? ⟨b2,o2+1,none⟩=some (.slice A' ws'.length c'):=by subst hq; exact k2
 clear hq h1 h2 k1 k2
 go_wp2_with fail
 go_region_held3 (fun w'=>w'.cell? ⟨b1,o1,none⟩=some (.bool true)∧w'.cell? ⟨b1,o1+1,none⟩=some (.slice A ws.length c)∧w'.cell? ⟨b2,o2,none⟩=some (.bool false)∧w'.cell? ⟨b2,o2+1,none⟩=some (.slice A' ws'.length c'))
  (first|go_keep|exact ⟨g1,g2,g3,g4⟩)
  ((first
   | (go_simp; go_at_call 203; refine (zaR A c ws A' c' ws' _ (h3.below (bthen HB1.out (zac _))) (k3.below (bthen HB1.out (zac _))) h4.wd k4.wd h4.top k4.top).mono ?_; rintro e w2 ⟨r,rfl,hr,hrb,⟨⟨nd,rfl⟩⟩⟩)))
 rename_i hHeld
 generalize hq:w1.drewN _=w2 at hHeld ⊢
 have HB2:=Lib.hid (show Below w1.heap.size w1 w2 from by subst hq; exact zai _ _)
 clear hq g1 g2 g3 g4
 obtain ⟨g1,g2,g3,g4⟩:=hHeld
 have hr0:=za7 hr
 have hr1:0≤r:=by have:=HLE.out; omega
 have HB12:=Lib.hid (bthen HB1.out HB2.out)
 clear hr hr0 HB1 HB2
 have HB1:=HB12
 clear HB12
 go_wp2_with fail
 go_region_held3 (fun w'=>w'.cell? ⟨b1,o1,none⟩=some (.bool true)∧w'.cell? ⟨b1,o1+1,none⟩=some (.slice A ws.length c)∧w'.cell? ⟨b2,o2,none⟩=some (.bool false)∧w'.cell? ⟨b2,o2+1,none⟩=some (.slice A' ws'.length c'))
  (first|go_keep|exact ⟨g1,g2,g3,g4⟩|exact ⟨zay g1 (bthen (zac w2) hb2) hu3 (hz.upd (Upd.of_below (bthen (bthen HB1.out (zac _)) hb2) 0 0 0)) (by omega),zay g2 (bthen (zac w2) hb2) hu3 (hz.upd (Upd.of_below (bthen (bthen HB1.out (zac _)) hb2) 0 0 0)) (by omega),zay g3 (bthen (zac w2) hb2) hu3 (hz.upd (Upd.of_below (bthen (bthen HB1.out (zac _)) hb2) 0 0 0)) (by omega),zay g4 (bthen (zac w2) hb2) hu3 (hz.upd (Upd.of_below (bthen (bthen HB1.out (zac _)) hb2) 0 0 0)) (by omega)⟩|exact ⟨((bthen (zac w2) hb2).cell (World.block_lt_of_cell? _ _ g1)).trans g1,((bthen (zac w2) hb2).cell (World.block_lt_of_cell? _ _ g2)).trans g2,((bthen (zac w2) hb2).cell (World.block_lt_of_cell? _ _ g3)).trans g3,((bthen (zac w2) hb2).cell (World.block_lt_of_cell? _ _ g4)).trans g4⟩)
  ((first
   | (go_simp; go_at_call 221; refine (zbK A c ws A' c' ws' _ (h3.below (bthen HB1.out (zac _))) (k3.below (bthen HB1.out (zac _))) h4.wd k4.wd LL1.out HLE.out HLL.out).mono ?_; rintro e w4 ⟨A2,c2,zs,rfl,hw2,hz2,hv2,hzl2,hb2⟩; have HV2:=Lib.hid hv2; clear hv2 hzl2)
   | (go_simp; go_at_call 136; refine (zax b o true A2 c2 zs _ (hz.upd (Upd.of_below (bthen (bthen HB1.out (zac _)) hb2) 0 0 0)) hw2 hz2).mono ?_; rintro e w3 ⟨rfl,hx3,hu3⟩)))
 all_goals
  have hfin:sg true (val zs)=x+y:=by rw [HV2.out]; exact HK.out
  rw [hfin] at hx3
  go_wp2
  go_ret
  exact ⟨rfl,hx3,(((Upd.of_below HB1.out _ _ _).trans (Upd.of_below (zac _) _ _ _)).trans (Upd.of_below hb2 _ _ _)).trans hu3⟩
theorem add_true_false_lt (b o b1 o1 b2 o2:Nat) (x y:Int) (w:World) (hz:Slot w b o) (hx:IntAt w b1 o1 x) (hy:IntAt w b2 o2 y) (hd1:b1≠b∨o1+2≤o∨o+2≤o1) (hd2:b2≠b∨o2+2≤o∨o+2≤o2) {n:Nat} (hs:Bd n x) (ht:Bd n y) (hn:n≤big) (hx0:x<0) (hy0:0≤y) (hxy:0<x+y) :
  Calls Tryz.prog 164 #[.pointer (some ⟨b,o,none⟩),.pointer (some ⟨b1,o1,none⟩),.pointer (some ⟨b2,o2,none⟩)] w fun e w'=>e = .returned (.pointer (some ⟨b,o,none⟩))∧IntAt w' b o (x+y)∧Upd w w' b o (o+2):=by
 obtain ⟨neg,A,c,ws,h1,h2,h3,h4⟩:=hx.out
 obtain ⟨neg',A',c',ws',k1,k2,k3,k4⟩:=hy.out
 have hl1:ws.length≤34359738368:=h4.small hs hn
 have hl2:ws'.length≤34359738368:=k4.small ht hn
 have ex:=h4.eq
 have ey:=k4.eq
 clear hs ht
 have hneg:neg=true:=h4.neg_iff.2 hx0
 have hneg':neg'=false:=by cases neg'; rfl; exact absurd (k4.neg_iff.1 rfl) (by omega)
 subst hneg; subst hneg'
 have hva:=h4.val_eq
 have hvb:=k4.val_eq
 have hk:sg false (val ws'-val ws)=x+y:=by rw [ex,ey]; unfold sg; simp<;>omega
 have hle:val ws<val ws':=by omega
 have HK:=Lib.hid hk
 have HLE:=Lib.hid hle
 have HLL:=Lib.hid (show ws.length≤ws'.length from zaQ k4.wd h4.wd h4.top (by omega))
 have LL1:=Lib.hid (show ws.length≤35184372088832 by omega)
 have LL2:=Lib.hid (show ws'.length≤35184372088832 by omega)
 clear ex ey hk hle hva hvb
 go_enter Tryz.func164,Tryz.ntmps164
 go_wp2_with fail
 go_quiet (fail)
 generalize hq:w.drewN _=w1
 have HB1:=Lib.hid (show Below w.heap.size w w1 from by subst hq; exact zai _ _)
 have g1:w1.cell? ⟨b1,o1,none⟩=some (.bool true):=by subst hq; exact h1
 have g2:w1.cell? ⟨b1,o1+1,none⟩=some (.slice A ws.length c):=by subst hq; exact h2
 have g3:w1.cell? ⟨b2,o2,none⟩=some (.bool false):=by subst hq; exact k1
 have g4:w1.cell? ⟨b2,o2+1,none⟩=some (.slice A' ws'.length c'):=by subst hq; exact k2
 clear hq h1 h2 k1 k2
 go_wp2_with fail
 go_region_held3 (fun w'=>w'.cell? ⟨b1,o1,none⟩=some (.bool true)∧w'.cell? ⟨b1,o1+1,none⟩=some (.slice A ws.length c)∧w'.cell? ⟨b2,o2,none⟩=some (.bool false)∧w'.cell? ⟨b2,o2+1,none⟩=some (.slice A' ws'.length c'))
  (first|go_keep|exact ⟨g1,g2,g3,g4⟩)
  ((first
   | (go_simp; go_at_call 203; refine (zaR A c ws A' c' ws' _ (h3.below (bthen HB1.out (zac _))) (k3.below (bthen HB1.out (zac _))) h4.wd k4.wd h4.top k4.top).mono ?_; rintro e w2 ⟨r,rfl,hr,hrb,⟨⟨nd,rfl⟩⟩⟩)))
 rename_i hHeld
 generalize hq:w1.drewN _=w2 at hHeld ⊢
 have HB2:=Lib.hid (show Below w1.heap.size w1 w2 from by subst hq; exact zai _ _)
 clear hq g1 g2 g3 g4
 obtain ⟨g1,g2,g3,g4⟩:=hHeld
 have hr0:=za7 hr
 have hr1:r<0:=by have:=HLE.out; omega
 have HB12:=Lib.hid (bthen HB1.out HB2.out)
 clear hr hr0 HB1 HB2
 have HB1:=HB12
 clear HB12
 go_wp2_with fail
 go_region_held3 (fun w'=>w'.cell? ⟨b1,o1,none⟩=some (.bool true)∧w'.cell? ⟨b1,o1+1,none⟩=some (.slice A ws.length c)∧w'.cell? ⟨b2,o2,none⟩=some (.bool false)∧w'.cell? ⟨b2,o2+1,none⟩=some (.slice A' ws'.length c'))
  (first|go_keep|exact ⟨g1,g2,g3,g4⟩|exact ⟨zay g1 (bthen (zac w2) hb2) hu3 (hz.upd (Upd.of_below (bthen (bthen HB1.out (zac _)) hb2) 0 0 0)) (by omega),zay g2 (bthen (zac w2) hb2) hu3 (hz.upd (Upd.of_below (bthen (bthen HB1.out (zac _)) hb2) 0 0 0)) (by omega),zay g3 (bthen (zac w2) hb2) hu3 (hz.upd (Upd.of_below (bthen (bthen HB1.out (zac _)) hb2) 0 0 0)) (by omega),zay g4 (bthen (zac w2) hb2) hu3 (hz.upd (Upd.of_below (bthen (bthen HB1.out (zac _)) hb2) 0 0 0)) (by omega)⟩|exact ⟨((bthen (zac w2) hb2).cell (World.block_lt_of_cell? _ _ g1)).trans g1,((bthen (zac w2) hb2).cell (World.block_lt_of_cell? _ _ g2)).trans g2,((bthen (zac w2) hb2).cell (World.block_lt_of_cell? _ _ g3)).trans g3,((bthen (zac w2) hb2).cell (World.block_lt_of_cell? _ _ g4)).trans g4⟩)
  ((first
   | (go_simp; go_at_call 221; refine (zbK A' c' ws' A c ws _ (k3.below (bthen HB1.out (zac _))) (h3.below (bthen HB1.out (zac _))) k4.wd h4.wd LL2.out (Int.le_of_lt HLE.out) HLL.out).mono ?_; rintro e w4 ⟨A2,c2,zs,rfl,hw2,hz2,hv2,hzl2,hb2⟩; have HV2:=Lib.hid hv2; clear hv2 hzl2)
   | (go_simp; go_at_call 136; refine (zax b o false A2 c2 zs _ (hz.upd (Upd.of_below (bthen (bthen HB1.out (zac _)) hb2) 0 0 0)) hw2 hz2).mono ?_; rintro e w3 ⟨rfl,hx3,hu3⟩)))
 all_goals
  have hfin:sg false (val zs)=x+y:=by rw [HV2.out]; exact HK.out
  rw [hfin] at hx3
  go_wp2
  go_ret
  exact ⟨rfl,hx3,(((Upd.of_below HB1.out _ _ _).trans (Upd.of_below (zac _) _ _ _)).trans (Upd.of_below hb2 _ _ _)).trans hu3⟩
theorem add_false_true_ge (b o b1 o1 b2 o2:Nat) (x y:Int) (w:World) (hz:Slot w b o) (hx:IntAt w b1 o1 x) (hy:IntAt w b2 o2 y) (hd1:b1≠b∨o1+2≤o∨o+2≤o1) (hd2:b2≠b∨o2+2≤o∨o+2≤o2) {n:Nat} (hs:Bd n x) (ht:Bd n y) (hn:n≤big) (hx0:0≤x) (hy0:y<0) (hxy:0≤x+y) :
  Calls Tryz.prog 164 #[.pointer (some ⟨b,o,none⟩),.pointer (some ⟨b1,o1,none⟩),.pointer (some ⟨b2,o2,none⟩)] w fun e w'=>e = .returned (.pointer (some ⟨b,o,none⟩))∧IntAt w' b o (x+y)∧Upd w w' b o (o+2):=by
 obtain ⟨neg,A,c,ws,h1,h2,h3,h4⟩:=hx.out
 obtain ⟨neg',A',c',ws',k1,k2,k3,k4⟩:=hy.out
 have hl1:ws.length≤34359738368:=h4.small hs hn
 have hl2:ws'.length≤34359738368:=k4.small ht hn
 have ex:=h4.eq
 have ey:=k4.eq
 clear hs ht
 have hneg:neg=false:=by cases neg; rfl; exact absurd (h4.neg_iff.1 rfl) (by omega)
 have hneg':neg'=true:=k4.neg_iff.2 hy0
 subst hneg; subst hneg'
 have hva:=h4.val_eq
 have hvb:=k4.val_eq
 have hk:sg false (val ws-val ws')=x+y:=by rw [ex,ey]; unfold sg; simp<;>omega
 have hle:val ws'≤val ws:=by omega
 have HK:=Lib.hid hk
 have HLE:=Lib.hid hle
 have HLL:=Lib.hid (show ws'.length≤ws.length from zaQ h4.wd k4.wd k4.top hle)
 have LL1:=Lib.hid (show ws.length≤35184372088832 by omega)
 have LL2:=Lib.hid (show ws'.length≤35184372088832 by omega)
 clear ex ey hk hle hva hvb
 go_enter Tryz.func164,Tryz.ntmps164
 go_wp2_with fail
 go_quiet (fail)
 generalize hq:w.drewN _=w1
 have HB1:=Lib.hid (show Below w.heap.size w w1 from by subst hq; exact zai _ _)
 have g1:w1.cell? ⟨b1,o1,none⟩=some (.bool false):=by subst hq; exact h1
 have g2:w1.cell? ⟨b1,o1+1,none⟩=some (.slice A ws.length c):=by subst hq; exact h2
 have g3:w1.cell? ⟨b2,o2,none⟩=some (.bool true):=by subst hq; exact k1
 have g4:w1.cell? ⟨b2,o2+1,none⟩=some (.slice A' ws'.length c'):=by subst hq; exact k2
 clear hq h1 h2 k1 k2
 go_wp2_with fail
 go_region_held3 (fun w'=>w'.cell? ⟨b1,o1,none⟩=some (.bool false)∧w'.cell? ⟨b1,o1+1,none⟩=some (.slice A ws.length c)∧w'.cell? ⟨b2,o2,none⟩=some (.bool true)∧w'.cell? ⟨b2,o2+1,none⟩=some (.slice A' ws'.length c'))
  (first|go_keep|exact ⟨g1,g2,g3,g4⟩)
  ((first
   | (go_simp; go_at_call 203; refine (zaR A c ws A' c' ws' _ (h3.below (bthen HB1.out (zac _))) (k3.below (bthen HB1.out (zac _))) h4.wd k4.wd h4.top k4.top).mono ?_; rintro e w2 ⟨r,rfl,hr,hrb,⟨⟨nd,rfl⟩⟩⟩)))
 rename_i hHeld
 generalize hq:w1.drewN _=w2 at hHeld ⊢
 have HB2:=Lib.hid (show Below w1.heap.size w1 w2 from by subst hq; exact zai _ _)
 clear hq g1 g2 g3 g4
 obtain ⟨g1,g2,g3,g4⟩:=hHeld
 have hr0:=za7 hr
 have hr1:0≤r:=by have:=HLE.out; omega
 have HB12:=Lib.hid (bthen HB1.out HB2.out)
 clear hr hr0 HB1 HB2
 have HB1:=HB12
 clear HB12
 go_wp2_with fail
 go_region_held3 (fun w'=>w'.cell? ⟨b1,o1,none⟩=some (.bool false)∧w'.cell? ⟨b1,o1+1,none⟩=some (.slice A ws.length c)∧w'.cell? ⟨b2,o2,none⟩=some (.bool true)∧w'.cell? ⟨b2,o2+1,none⟩=some (.slice A' ws'.length c'))
  (first|go_keep|exact ⟨g1,g2,g3,g4⟩|exact ⟨zay g1 (bthen (zac w2) hb2) hu3 (hz.upd (Upd.of_below (bthen (bthen HB1.out (zac _)) hb2) 0 0 0)) (by omega),zay g2 (bthen (zac w2) hb2) hu3 (hz.upd (Upd.of_below (bthen (bthen HB1.out (zac _)) hb2) 0 0 0)) (by omega),zay g3 (bthen (zac w2) hb2) hu3 (hz.upd (Upd.of_below (bthen (bthen HB1.out (zac _)) hb2) 0 0 0)) (by omega),zay g4 (bthen (zac w2) hb2) hu3 (hz.upd (Upd.of_below (bthen (bthen HB1.out (zac _)) hb2) 0 0 0)) (by omega)⟩|exact ⟨((bthen (zac w2) hb2).cell (World.block_lt_of_cell? _ _ g1)).trans g1,((bthen (zac w2) hb2).cell (World.block_lt_of_cell? _ _ g2)).trans g2,((bthen (zac w2) hb2).cell (World.block_lt_of_cell? _ _ g3)).trans g3,((bthen (zac w2) hb2).cell (World.block_lt_of_cell? _ _ g4)).trans g4⟩)
  ((first
   | (go_simp; go_at_call 221; refine (zbK A c ws A' c' ws' _ (h3.below (bthen HB1.out (zac _))) (k3.below (bthen HB1.out (zac _))) h4.wd k4.wd LL1.out HLE.out HLL.out).mono ?_; rintro e w4 ⟨A2,c2,zs,rfl,hw2,hz2,hv2,hzl2,hb2⟩; have HV2:=Lib.hid hv2; clear hv2 hzl2)
   | (go_simp; go_at_call 136; refine (zax b o false A2 c2 zs _ (hz.upd (Upd.of_below (bthen (bthen HB1.out (zac _)) hb2) 0 0 0)) hw2 hz2).mono ?_; rintro e w3 ⟨rfl,hx3,hu3⟩)))
 all_goals
  have hfin:sg false (val zs)=x+y:=by rw [HV2.out]; exact HK.out
  rw [hfin] at hx3
  go_wp2
  go_ret
  exact ⟨rfl,hx3,(((Upd.of_below HB1.out _ _ _).trans (Upd.of_below (zac _) _ _ _)).trans (Upd.of_below hb2 _ _ _)).trans hu3⟩
theorem add_false_true_lt (b o b1 o1 b2 o2:Nat) (x y:Int) (w:World) (hz:Slot w b o) (hx:IntAt w b1 o1 x) (hy:IntAt w b2 o2 y) (hd1:b1≠b∨o1+2≤o∨o+2≤o1) (hd2:b2≠b∨o2+2≤o∨o+2≤o2) {n:Nat} (hs:Bd n x) (ht:Bd n y) (hn:n≤big) (hx0:0≤x) (hy0:y<0) (hxy:x+y<0) :
  Calls Tryz.prog 164 #[.pointer (some ⟨b,o,none⟩),.pointer (some ⟨b1,o1,none⟩),.pointer (some ⟨b2,o2,none⟩)] w fun e w'=>e = .returned (.pointer (some ⟨b,o,none⟩))∧IntAt w' b o (x+y)∧Upd w w' b o (o+2):=by
 obtain ⟨neg,A,c,ws,h1,h2,h3,h4⟩:=hx.out
 obtain ⟨neg',A',c',ws',k1,k2,k3,k4⟩:=hy.out
 have hl1:ws.length≤34359738368:=h4.small hs hn
 have hl2:ws'.length≤34359738368:=k4.small ht hn
 have ex:=h4.eq
 have ey:=k4.eq
 clear hs ht
 have hneg:neg=false:=by cases neg; rfl; exact absurd (h4.neg_iff.1 rfl) (by omega)
 have hneg':neg'=true:=k4.neg_iff.2 hy0
 subst hneg; subst hneg'
 have hva:=h4.val_eq
 have hvb:=k4.val_eq
 have hk:sg true (val ws'-val ws)=x+y:=by rw [ex,ey]; unfold sg; simp<;>omega
 have hle:val ws<val ws':=by omega
 have HK:=Lib.hid hk
 have HLE:=Lib.hid hle
 have HLL:=Lib.hid (show ws.length≤ws'.length from zaQ k4.wd h4.wd h4.top (by omega))
 have LL1:=Lib.hid (show ws.length≤35184372088832 by omega)
 have LL2:=Lib.hid (show ws'.length≤35184372088832 by omega)
 clear ex ey hk hle hva hvb
 go_enter Tryz.func164,Tryz.ntmps164
 go_wp2_with fail
 go_quiet (fail)
 generalize hq:w.drewN _=w1
 have HB1:=Lib.hid (show Below w.heap.size w w1 from by subst hq; exact zai _ _)
 have g1:w1.cell? ⟨b1,o1,none⟩=some (.bool false):=by subst hq; exact h1
 have g2:w1.cell? ⟨b1,o1+1,none⟩=some (.slice A ws.length c):=by subst hq; exact h2
 have g3:w1.cell? ⟨b2,o2,none⟩=some (.bool true):=by subst hq; exact k1
 have g4:w1.cell? ⟨b2,o2+1,none⟩=some (.slice A' ws'.length c'):=by subst hq; exact k2
 clear hq h1 h2 k1 k2
 go_wp2_with fail
 go_region_held3 (fun w'=>w'.cell? ⟨b1,o1,none⟩=some (.bool false)∧w'.cell? ⟨b1,o1+1,none⟩=some (.slice A ws.length c)∧w'.cell? ⟨b2,o2,none⟩=some (.bool true)∧w'.cell? ⟨b2,o2+1,none⟩=some (.slice A' ws'.length c'))
  (first|go_keep|exact ⟨g1,g2,g3,g4⟩)
  ((first
   | (go_simp; go_at_call 203; refine (zaR A c ws A' c' ws' _ (h3.below (bthen HB1.out (zac _))) (k3.below (bthen HB1.out (zac _))) h4.wd k4.wd h4.top k4.top).mono ?_; rintro e w2 ⟨r,rfl,hr,hrb,⟨⟨nd,rfl⟩⟩⟩)))
 rename_i hHeld
 generalize hq:w1.drewN _=w2 at hHeld ⊢
 have HB2:=Lib.hid (show Below w1.heap.size w1 w2 from by subst hq; exact zai _ _)
 clear hq g1 g2 g3 g4
 obtain ⟨g1,g2,g3,g4⟩:=hHeld
 have hr0:=za7 hr
 have hr1:r<0:=by have:=HLE.out; omega
 have HB12:=Lib.hid (bthen HB1.out HB2.out)
 clear hr hr0 HB1 HB2
 have HB1:=HB12
 clear HB12
 go_wp2_with fail
 go_region_held3 (fun w'=>w'.cell? ⟨b1,o1,none⟩=some (.bool false)∧w'.cell? ⟨b1,o1+1,none⟩=some (.slice A ws.length c)∧w'.cell? ⟨b2,o2,none⟩=some (.bool true)∧w'.cell? ⟨b2,o2+1,none⟩=some (.slice A' ws'.length c'))
  (first|go_keep|exact ⟨g1,g2,g3,g4⟩|exact ⟨zay g1 (bthen (zac w2) hb2) hu3 (hz.upd (Upd.of_below (bthen (bthen HB1.out (zac _)) hb2) 0 0 0)) (by omega),zay g2 (bthen (zac w2) hb2) hu3 (hz.upd (Upd.of_below (bthen (bthen HB1.out (zac _)) hb2) 0 0 0)) (by omega),zay g3 (bthen (zac w2) hb2) hu3 (hz.upd (Upd.of_below (bthen (bthen HB1.out (zac _)) hb2) 0 0 0)) (by omega),zay g4 (bthen (zac w2) hb2) hu3 (hz.upd (Upd.of_below (bthen (bthen HB1.out (zac _)) hb2) 0 0 0)) (by omega)⟩|exact ⟨((bthen (zac w2) hb2).cell (World.block_lt_of_cell? _ _ g1)).trans g1,((bthen (zac w2) hb2).cell (World.block_lt_of_cell? _ _ g2)).trans g2,((bthen (zac w2) hb2).cell (World.block_lt_of_cell? _ _ g3)).trans g3,((bthen (zac w2) hb2).cell (World.block_lt_of_cell? _ _ g4)).trans g4⟩)
  ((first
   | (go_simp; go_at_call 221; refine (zbK A' c' ws' A c ws _ (k3.below (bthen HB1.out (zac _))) (h3.below (bthen HB1.out (zac _))) k4.wd h4.wd LL2.out (Int.le_of_lt HLE.out) HLL.out).mono ?_; rintro e w4 ⟨A2,c2,zs,rfl,hw2,hz2,hv2,hzl2,hb2⟩; have HV2:=Lib.hid hv2; clear hv2 hzl2)
   | (go_simp; go_at_call 136; refine (zax b o true A2 c2 zs _ (hz.upd (Upd.of_below (bthen (bthen HB1.out (zac _)) hb2) 0 0 0)) hw2 hz2).mono ?_; rintro e w3 ⟨rfl,hx3,hu3⟩)))
 all_goals
  have hfin:sg true (val zs)=x+y:=by rw [HV2.out]; exact HK.out
  rw [hfin] at hx3
  go_wp2
  go_ret
  exact ⟨rfl,hx3,(((Upd.of_below HB1.out _ _ _).trans (Upd.of_below (zac _) _ _ _)).trans (Upd.of_below hb2 _ _ _)).trans hu3⟩
theorem add_calls (b o b1 o1 b2 o2:Nat) (x y:Int) (w:World) (hz:Slot w b o) (hx:IntAt w b1 o1 x) (hy:IntAt w b2 o2 y) {n:Nat} (hs:Bd n x) (ht:Bd n y) (hn:n≤big) (hd1:b1≠b∨o1+2≤o∨o+2≤o1) (hd2:b2≠b∨o2+2≤o∨o+2≤o2) :
  Calls Tryz.prog 164 #[.pointer (some ⟨b,o,none⟩),.pointer (some ⟨b1,o1,none⟩),.pointer (some ⟨b2,o2,none⟩)] w fun e w'=>e = .returned (.pointer (some ⟨b,o,none⟩))∧IntAt w' b o (x+y)∧Upd w w' b o (o+2):=by
 by_cases hx0:x<0
 ·by_cases hy0:y<0
  ·exact add_same_true b o b1 o1 b2 o2 x y w hz hx hy hd1 hd2 hs ht hn hx0 hy0
  ·by_cases hxy:x+y≤0
   ·exact add_true_false_ge b o b1 o1 b2 o2 x y w hz hx hy hd1 hd2 hs ht hn hx0 (by omega) hxy
   ·exact add_true_false_lt b o b1 o1 b2 o2 x y w hz hx hy hd1 hd2 hs ht hn hx0 (by omega) (by omega)
 ·by_cases hy0:y<0
  ·by_cases hxy:0≤x+y
   ·exact add_false_true_ge b o b1 o1 b2 o2 x y w hz hx hy hd1 hd2 hs ht hn (by omega) hy0 hxy
   ·exact add_false_true_lt b o b1 o1 b2 o2 x y w hz hx hy hd1 hd2 hs ht hn (by omega) hy0 (by omega)
  ·exact add_same_false b o b1 o1 b2 o2 x y w hz hx hy hd1 hd2 hs ht hn (by omega) (by omega)
theorem zcA {zs:List Int} {j N:Nat} (hj:j<N) (hN:N≤zs.length) (v:Int):val ((zs.set j v).take N)=val (zs.take N)+4294967296^j*(v-rd zs (j:Int)):=by
  have hjl:j<zs.length:=by omega
  have e1:zs.take N=zs.take j++rd zs (j:Int) :: (zs.take N).drop (j+1):=by
    have h1:zs.take N=(zs.take N).take (j+1)++(zs.take N).drop (j+1):=(List.take_append_drop _ _).symm
    rw [List.take_take,Nat.min_eq_left (by omega),List.take_succ_eq_append_getElem hjl] at h1
    have e:rd zs (j:Int)=zs[j]:=by rw [←zaO,List.getD_eq_getElem?_getD,List.getElem?_eq_getElem hjl]; rfl
    rw [e]
    rw [List.append_assoc] at h1
    exact h1
  have e2:(zs.set j v).take N=zs.take j++v :: (zs.take N).drop (j+1):=by
    rw [List.take_set]
    conv=>lhs; rw [e1]
    rw [List.set_append_right _ _ (by rw [List.length_take]; omega),List.length_take,Nat.min_eq_left (by omega),Nat.sub_self,List.set_cons_zero]
  rw [e2]
  conv=>rhs; rw [e1]
  rw [za0,za0]
  simp only [val,List.length_take,Nat.min_eq_left (show j≤zs.length by omega)]
  grind
theorem prod_bd {x y:Int} (hx:0≤x∧x<4294967296) (hy:0≤y∧y<4294967296):0≤x*y∧x*y≤18446744065119617025:=by
  refine ⟨Int.mul_nonneg hx.1 hy.1,?_⟩
  have:=Int.mul_le_mul (show x≤4294967295 by omega) (show y≤4294967295 by omega) hy.1 (by decide)
  simpa using this
theorem mul_step {T V P Pi x y c z s yt:Int} (h:T+P*c=V+Pi*x*yt) (hs:s=c+(x*y+z)):T+P*(s%4294967296-z)+P*4294967296*(s/4294967296)=V+Pi*x*yt+P*(x*y):=by
  have e:s%4294967296+4294967296*(s/4294967296)=s:=Int.emod_add_mul_ediv s 4294967296
  have e2:P*4294967296*(s/4294967296)=P*(s-s%4294967296):=by rw [show s-s%4294967296=4294967296*(s/4294967296) by omega]; rw [Int.mul_assoc]
  rw [e2,←h,hs]
  grind
theorem zbs (b o b1 o1 b2 o2:Nat) (x y:Int) (w:World) (hz:Slot w b o) (hx:IntAt w b1 o1 x) (hy:IntAt w b2 o2 y) {n:Nat} (hs:Bd n x) (ht:Bd n y) (hn:n≤big) :
    Calls Tryz.prog 159 #[.pointer (some ⟨b,o,none⟩),.pointer (some ⟨b1,o1,none⟩),.pointer (some ⟨b2,o2,none⟩)] w fun e w'=>e = .returned (.pointer (some ⟨b,o,none⟩))∧IntAt w' b o (x*y)∧Upd w w' b o (o+2):=by
  obtain ⟨neg,A,c,xs,h1,h2,h3,h4⟩:=hx.out
  obtain ⟨neg',A',c',ys,k1,k2,k3,k4⟩:=hy.out
  have hl1:xs.length≤34359738368:=h4.small hs hn
  have hl2:ys.length≤34359738368:=k4.small ht hn
  have hlt1:=hx.lt
  have hlt2:=hy.lt
  have hk:sg (!(neg == neg')) (val xs*val ys)=x*y:=by
    rw [h4.eq,k4.eq]; unfold sg; cases neg<;>cases neg'<;>simp [Int.neg_mul,Int.mul_neg]
  have HK:=Lib.hid hk
  clear hs ht hk
  have hmk:=zbw (P:=Tryz.prog) 68 144 .u32 4 Tryz.underlying68 zcD (by decide) (xs.length+ys.length) (by omega)
  have hown:=zcb w w.heap.size 144 .u32 (xs.length+ys.length) (Nat.le_refl _) (by omega)
  have HOWN:=Lib.hid hown
  clear hown
  rw [Int.natCast_add] at hmk
  have hwr:IntKind.i64.wrap ((xs.length:Int)+ys.length)=(xs.length:Int)+ys.length:=IntWalk.i64_in _ (by omega)
  go_enter Tryz.func159,Tryz.ntmps159
  go_wp2_with fail
  go_region_held3 (fun w'=>w'.cell? ⟨b1,o1+1,none⟩=some (.slice A xs.length c)∧w'.cell? ⟨b2,o2+1,none⟩=some (.slice A' ys.length c'))
    (first|go_keep|exact ⟨h2,k2⟩)
    ((first|fail))
  clear hmk hwr
  rename_i hHeld
  clear hHeld
  generalize hq:(w.alloc _).drew=w0
  have HB0:=Lib.hid (show Below w.heap.size w w0 from by subst hq; exact bthen (zaa (Below.refl _ _) _) (zac _))
  have HOW0:=Lib.hid (show w0.ownsRow w.heap.size 144 1 (.slice (some ⟨w.heap.size,0,none⟩) (xs.length+ys.length) (xs.length+ys.length)) (xs.length+ys.length) (nums .u32 (List.replicate (xs.length+ys.length) 0)) from by subst hq; exact HOWN.out)
  have j2:=(HB0.out.cell (p:=⟨b1,o1+1,none⟩) hlt1).trans h2
  have j4:=(HB0.out.cell (p:=⟨b2,o2+1,none⟩) hlt2).trans k2
  clear hq HOWN
  go_wp2
  go_loopw [30] (fun vi wr=>∃ (i:Nat) (zs:List Int),i≤xs.length∧vi = .int .i64 i∧zs.length=xs.length+ys.length∧Wd zs∧OwnW wr w.heap.size (.slice (some ⟨w.heap.size,0,none⟩) (xs.length+ys.length) (xs.length+ys.length)) zs∧Below w.heap.size w wr ∧
      val (zs.take (i+ys.length))=val (xs.take i)*val ys) (fun vi _=>xs.length-(intOf vi).toNat)
  case atStart=>exact ⟨0,List.replicate (xs.length+ys.length) 0,by omega,rfl,by simp,zbS _,by unfold OwnW; rw [List.length_replicate]; exact HOW0.out,HB0.out,by rw [List.take_replicate,val_zeros]; simp [val]⟩
  case round =>
    obtain ⟨i,zs,hi,rfl,hzl,hzd,hO,hB,hv⟩:=hrel
    have HV:=Lib.hid hv
    have HO:=Lib.hid hO
    have HZL:=Lib.hid hzl
    clear hv hO hzl j2 j4
    have m1:=(hB.cell (p:=⟨b1,o1,none⟩) hlt1).trans h1
    have m2:=(hB.cell (p:=⟨b1,o1+1,none⟩) hlt1).trans h2
    have m3:=(hB.cell (p:=⟨b2,o2,none⟩) hlt2).trans k1
    have m4:=(hB.cell (p:=⟨b2,o2+1,none⟩) hlt2).trans k2
    by_cases hil:i<xs.length
    · obtain ⟨ad,rfl⟩:=h3.ptr (by omega)
      have hcx:=(h3.below hB).cell (j:=i) hil
      have hbx:=h4.wd.rd (i:Int)
      rw [zaO] at hcx
      have hvx:=zao (xs:=xs) hil
      have HVX:=Lib.hid hvx
      clear hvx
      generalize rd xs (i:Int)=x0 at hcx hbx HVX
      have hbx':=hbx
      obtain ⟨hbx0,hbx1⟩:=hbx
      go_wp2
      obtain ⟨wo,rfl⟩:∃ wo:World,wo=wr:=⟨_,rfl⟩
      go_loopw [10,40] (fun vc vk wr=>∃ (k:Nat) (cc:Int) (z2:List Int),k≤ys.length∧0≤cc∧cc<4294967296∧vc = .int .u64 cc∧vk = .int .i64 k∧z2.length=xs.length+ys.length∧Wd z2∧OwnW wr w.heap.size (.slice (some ⟨w.heap.size,0,none⟩) (xs.length+ys.length) (xs.length+ys.length)) z2∧Below w.heap.size w wr ∧
          val (z2.take (i+ys.length))+4294967296^(i+k)*cc=val (xs.take i)*val ys+4294967296^i*x0*val (ys.take k)) (fun _ vk _=>ys.length-(intOf vk).toNat)
      case atStart=>exact ⟨0,0,zs,by omega,by omega,by omega,rfl,rfl,HZL.out,hzd,HO.out,hB,by rw [HV.out]; simp [val]⟩
      case round =>
        obtain ⟨k,cc,z2,hk,hc0,hc1,rfl,rfl,hzl2,hzd2,hO2,hB2,hv2⟩:=hrel
        have HV2:=Lib.hid hv2
        have HZL2:=Lib.hid hzl2
        have HO2:=Lib.hid hO2
        clear hv2 hO2 hzl2 m1 m2 m3 m4 hcx
        have m1:=(hB2.cell (p:=⟨b1,o1,none⟩) hlt1).trans h1
        have m2:=(hB2.cell (p:=⟨b1,o1+1,none⟩) hlt1).trans h2
        have m3:=(hB2.cell (p:=⟨b2,o2,none⟩) hlt2).trans k1
        have m4:=(hB2.cell (p:=⟨b2,o2+1,none⟩) hlt2).trans k2
        have HOA:=Lib.hid (show wr.ownsRow w.heap.size 144 1 (.slice (some ⟨w.heap.size,0,none⟩) (xs.length+ys.length) (xs.length+ys.length)) (xs.length+ys.length) (nums .u32 z2) by have:=HO2.out; unfold OwnW at this; rw [HZL2.out] at this; exact this)
        by_cases hkl:k<ys.length
        · obtain ⟨ad',rfl⟩:=k3.ptr (by omega)
          have hcy:=(k3.below hB2).cell (j:=k) hkl
          have hby:=k4.wd.rd (k:Int)
          rw [zaO] at hcy
          have hvy:=zao (xs:=ys) hkl
          have HVY:=Lib.hid hvy
          clear hvy
          generalize rd ys (k:Int)=y0 at hcy hby HVY
          have hp:=prod_bd hbx' hby
          obtain ⟨hp0,hp1⟩:=hp
          obtain ⟨hby0,hby1⟩:=hby
          obtain ⟨hs1,hs2⟩:=zbP HOA.out ((i+k:Nat):Int) (by omega) (by omega)
          have hst:=zaX HOA.out ((i+k:Nat):Int) ((cc+(x0*y0+rd z2 ((i+k:Nat):Int)))%4294967296)
          have hbz:=hzd2.rd ((i+k:Nat):Int)
          have hvs:=zcA (zs:=z2) (j:=i+k) (N:=i+ys.length) (by omega) (by rw [HZL2.out]; omega) ((cc+(x0*y0+rd z2 ((i+k:Nat):Int)))%4294967296)
          rw [Int.toNat_natCast] at hs1 hs2 hst
          have HST:=Lib.hid hst
          have HVS:=Lib.hid hvs
          clear hst hvs
          generalize rd z2 ((i+k:Nat):Int)=z0 at hs1 hbz HVS HST
          obtain ⟨hbz0,hbz1⟩:=hbz
          have fin:Wd (z2.set (i+k) ((cc+(x0*y0+z0))%4294967296))∧OwnW (wr.setCell ⟨w.heap.size,i+k,none⟩ (.int .u32 ((cc+(x0*y0+z0))%4294967296))) w.heap.size (.slice (some ⟨w.heap.size,0,none⟩) (xs.length+ys.length) (xs.length+ys.length)) (z2.set (i+k) ((cc+(x0*y0+z0))%4294967296))∧Below w.heap.size w (wr.setCell ⟨w.heap.size,i+k,none⟩ (.int .u32 ((cc+(x0*y0+z0))%4294967296))) ∧
              val ((z2.set (i+k) ((cc+(x0*y0+z0))%4294967296)).take (i+ys.length))+4294967296^(i+(k+1))*((cc+(x0*y0+z0))/4294967296)=val (xs.take i)*val ys+4294967296^i*x0*val (ys.take (k+1)):=by
            refine ⟨zbA hzd2 _ (by omega) (by omega),?_,hB2.setCell (Nat.le_refl _) _,?_⟩
            · unfold OwnW
              rw [List.length_set,HZL2.out]
              exact HST.out.1
            · rw [HVS.out,HVY.out,←Nat.add_assoc,Int.pow_succ,mul_step HV2.out rfl,Int.pow_add]
              grind
          have FIN:=Lib.hid fin
          clear fin
          go_wp2
          go_roundw
          case rel =>
            obtain ⟨f1,f2,f3,f4⟩:=FIN.out
            exact ⟨k+1,(cc+(x0*y0+z0))/4294967296,_,by omega,by omega,by omega,rfl,by go_num,by rw [List.length_set,HZL2.out],f1,f2,f3,f4⟩
          case measure=>simp [intOf]; omega
        · obtain rfl:k=ys.length:=by omega
          obtain ⟨hs1,hs2⟩:=zbP HOA.out ((i+ys.length:Nat):Int) (by omega) (by omega)
          have hst:=zaX HOA.out ((i+ys.length:Nat):Int) cc
          rw [Int.toNat_natCast] at hs1 hs2 hst
          have HST:=Lib.hid hst
          clear hst
          have fin:OwnW (wr.setCell ⟨w.heap.size,i+ys.length,none⟩ (.int .u32 cc)) w.heap.size (.slice (some ⟨w.heap.size,0,none⟩) (xs.length+ys.length) (xs.length+ys.length)) (z2.set (i+ys.length) cc) ∧
              val ((z2.set (i+ys.length) cc).take (i+1+ys.length))=val (xs.take (i+1))*val ys:=by
            refine ⟨?_,?_⟩
            · unfold OwnW
              rw [List.length_set,HZL2.out]
              exact HST.out.1
            · have h:=HV2.out
              rw [List.take_length] at h
              rw [show i+1+ys.length=i+ys.length+1 by omega,za6 (by rw [HZL2.out]; omega),h,HVX.out]
              grind
          have FIN:=Lib.hid fin
          clear fin
          go_wp2
          go_roundw
          case rel=>exact ⟨i+1,_,by omega,by go_num,by rw [List.length_set,HZL2.out],zbA hzd2 _ hc0 hc1,FIN.out.1,hB2.setCell (Nat.le_refl _) _,FIN.out.2⟩
          case measure=>simp [intOf]; omega
    · obtain rfl:i=xs.length:=by omega
      obtain ⟨A2,c2,he,hw3⟩:=HO.out.wat
      have hfin:sg (!(neg == neg')) (val zs)=x*y:=by
        have h:=HV.out
        rw [List.take_length,List.take_of_length_le (by rw [HZL.out]; omega)] at h
        rw [h]; exact HK.out
      injection he with e1 e2 e3
      subst e1; subst e3
      rw [←HZL.out]
      rw [←HZL.out] at hw3
      have HF:=Lib.hid hfin
      clear hfin e2
      go_wp2_with fail
      go_still_tail 11,(by kernel_rfl)
      change wpList _ _ _ _ _ wr.drew
      go_wp2_with fail
      refine (zax b o (!(neg == neg')) _ _ zs _ (hz.upd (Upd.of_below (bthen hB (zac _)) 0 0 0)) (hw3.below (zac _)) hzd).mono ?_
      rintro e w3 ⟨rfl,hx3,hu3⟩
      rw [HF.out] at hx3
      go_wp2
      go_ret
      exact ⟨rfl,hx3,(Upd.of_below (bthen hB (zac _)) _ _ _).trans hu3⟩
end Go.Proofs.ZP
end
section
namespace Go.Proofs.ZP
open Go.RowKit Go.Proofs.ZW.Wa Go.Proofs.ZW.Wb Go.Proofs.ZW.Wc
attribute [local go_sem] zaH zaF zaW zaV zaA zaz zaG zaE
def ample_small.l0:Nat→List Int→Int→List Int→Int→Int→Option (List Int×Int)
 | 0,_,_,_,_,_=>none
 | k+1,x0,x1,x6,x7,x8=>if x8≥0 then (if 0≤x8 then (if x8<(x0.length:Int) then (if (IntKind.u64.wrap (x1))=0 then (none) else (if x8<(x6.length:Int) then (ample_small.l0 k x0 x1 (x6.set (x8:Int).toNat ((IntKind.u64.wrap (Int.tdiv (Go.bits .or .u64 (IntKind.u64.wrap (x7*4294967296)) (IntKind.u64.wrap (rd x0 x8))) (IntKind.u64.wrap (x1))))%4294967296)) (Int.tmod (Go.bits .or .u64 (IntKind.u64.wrap (x7*4294967296)) (IntKind.u64.wrap (rd x0 x8))) (IntKind.u64.wrap (x1))) (wrap64 (x8-1))) else (none))) else (none)) else (none)) else (some (x6,(x7)%4294967296))
def ample_small.f (k:Nat) (l0:List Int) (a1:Int):Option (List Int×Int):=if 0≤(l0.length:Int) then (if ((l0.length:Int):Int).toNat≤70368744177664 then (ample_small.l0 k l0 a1 (List.replicate ((l0.length:Int):Int).toNat 0) 0 (wrap64 ((l0.length:Int)-1))) else (none)) else (none)
theorem ample_small.calls (k : Nat) (A0 : Option Addr) (c0 : Nat) (l0 : List Int) (a1 : Int) (r1 : List Int) (r2 : Int) (w : World) (hr0 : Kd.C (Kd.int .u32) w A0 l0.length l0) (hc0 : l0.length ≤ c0) (h : ample_small.f k l0 a1 = some (r1, r2)) :
  Calls Tryz.prog 138 #[.slice A0 l0.length c0,.int .u32 a1] w fun e w'=>∃ v0_:Value,e = .returned (.tuple #[v0_,.int .u32 r2])∧Kd.R (Kd.int .u32) 144 w' w.heap.size (fun _=>True) v0_ r1∧Below w.heap.size w w':=by
 have HR0:=Aside0.mk hr0
 have HC0:=Aside0.mk hc0
 clear hr0 hc0
 have HB:=Aside0.mk (Below.refl w.heap.size w)
 have H:(if 0≤(l0.length:Int) then (if ((l0.length:Int):Int).toNat≤70368744177664 then (ample_small.l0 k l0 a1 (List.replicate ((l0.length:Int):Int).toNat 0) 0 (wrap64 ((l0.length:Int)-1))) else (none)) else (none))=some (r1,r2):=h
 clear h
 by_cases c3:0≤(l0.length:Int)
 ·rw [if_pos c3] at H
  have c3b0:=eq_true c3
  have c3b1:decide (0≤(l0.length:Int))=true:=decide_eq_true c3
  clear c3
  by_cases c4:((l0.length:Int):Int).toNat≤70368744177664
  ·rw [if_pos c4] at H
   have c4b0:=eq_true c4
   have c4b1:decide (((l0.length:Int):Int).toNat≤70368744177664)=true:=decide_eq_true c4
   clear c4
   obtain ⟨y114,hy114⟩:∃ y_:List Int,y_=(List.replicate ((l0.length:Int):Int).toNat 0):=⟨_,rfl⟩
   replace H:(ample_small.l0 k l0 a1 y114 0 (wrap64 ((l0.length:Int)-1)))=some (r1,r2):=by first|(rw [hy114]; with_reducible exact H)|(have H2_:=(Option.bind_some _ _).symm.trans H; rw [hy114]; with_reducible exact H2_)|(have H2_:=(Option.bind_some _ _).symm.trans H; with_reducible exact H2_)|with_reducible exact H|(rw [hy114]; exact H)|exact H
   have Ny114:=Aside0.mk hy114
   clear hy114
   have H':=Aside0.mk H
   clear H
   go_enter Tryz.func138,Tryz.ntmps138
   go_wp2_with (first|((with_reducible refine za4 (N:=11) rfl ?_); refine Kd.R_make (Kd.int .u32) _ 144 rfl (N:=11) rfl 68 _ _ rfl (l0.length:Int) rfl rfl Tryz.underlying68 (.int .u32 0) 4 info144 rfl (by decide) (by omega) 0 (ok:=fun _=>True) (okp:=fun _=>True) rfl (fun _ hk=>hk) trivial (of_decide_eq_true (by first|(with_reducible assumption)|assumption)) (Nat.le_trans (Nat.mul_le_mul_right _ (of_decide_eq_true (by first|(with_reducible assumption)|assumption):(l0.length:Int).toNat≤70368744177664)) (by omega)) (Below.refl _ _) (Nat.le_refl _) ?_; intro v115 w5 ho6 hb hg_ hnew_; clear hg_ hnew_; (first|rw [←Ny114.out] at ho6|(simp only [Int.reduceToNat] at ho6; rw [←Ny114.out] at ho6)); have n0_:=Aside0.mk (Kd.R_lower ho6 (zaq (by repeat (first|(with_reducible first|exact HB.out|apply zaa|apply zab|apply zae)|exact HB.out)))); have n1_:=Aside0.mk (zar (by repeat (first|(with_reducible first|exact HB.out|apply zaa|apply zab|apply zae)|exact HB.out)) hb); clear HB; have HO116:=n0_; have HB:=n1_; clear n0_ n1_; clear hb ho6))
   go_loopg [7,8] k (fun kq v7 v8 w'=>∃ (x6_1:List Int) (x7_1:Int) (x8_1:Int),v7 = .int .u64 x7_1∧v8 = .int .i64 x8_1∧Aside0 (ample_small.l0 kq l0 a1 x6_1 x7_1 x8_1=some (r1,r2))∧Aside0 (kq≤k)∧Aside0 (Kd.R (Kd.int .u32) 144 w' w.heap.size (fun _=>True) v115 x6_1)∧Aside0 (Below w.heap.size w w'))
   case atStart=>exact ⟨(y114),(0),(wrap64 ((l0.length:Int)-1)),(by first|rfl|(simp; done)|(simp [*]; done)),(by first|rfl|(simp; done)|(simp [*]; done)),H',⟨Nat.le_refl _⟩,⟨by (with_reducible repeat (first|apply Kd.R_alloc|apply Kd.R_drewN|apply Kd.R_drew)); exact HO116.out⟩,⟨by repeat (first|(with_reducible first|exact HB.out|apply zaa|apply zab|apply zae)|exact HB.out)⟩⟩
   case round =>
    clear H'
    try clear c1
    try clear p2
    try clear c3
    try clear c3b0
    try clear c3b1
    try clear c4
    try clear c4b0
    try clear c4b1
    try clear p6
    obtain ⟨x6_1,x7_1,x8_1,rfl,rfl,HA,HK1,HO_6,HB⟩:=hrel
    cases gk with
    | zero=>exact absurd HA.out (by simp [ample_small.l0])
    | succ k1 =>
     have H:=HA.out
     clear HA
     simp only [ample_small.l0] at H
     by_cases c7:x8_1≥0
     ·rw [if_pos c7] at H
      have c7b0:decide (0≤x8_1)=true:=decide_eq_true c7
      clear c7
      by_cases c8:0≤x8_1
      ·rw [if_pos c8] at H
       have c8b0:decide (0≤x8_1)=true:=decide_eq_true c8
       clear c8
       by_cases c9:x8_1<(l0.length:Int)
       ·rw [if_pos c9] at H
        have c9b0:decide (x8_1<(l0.length:Int))=true:=decide_eq_true c9
        clear c9
        by_cases c10:(IntKind.u64.wrap (a1))=0
        ·rw [if_pos c10] at H
         exact absurd H (by simp)
        ·rw [if_neg c10] at H
         have c10b0:((IntKind.u64.wrap (a1)) == 0)=false:=beq_eq_false_iff_ne.mpr c10
         have c10b1:((IntKind.u64.wrap (a1)) != 0)=true:=bne_iff_ne.mpr c10
         by_cases c11:x8_1<(x6_1.length:Int)
         ·rw [if_pos c11] at H
          have c11b0:decide (x8_1<(x6_1.length:Int))=true:=decide_eq_true c11
          clear c11
          obtain ⟨y118,hy118⟩:∃ y_:List Int,y_=(x6_1.set (x8_1:Int).toNat ((IntKind.u64.wrap (Int.tdiv (Go.bits .or .u64 (IntKind.u64.wrap (x7_1*4294967296)) (IntKind.u64.wrap (rd l0 x8_1))) (IntKind.u64.wrap (a1))))%4294967296)):=⟨_,rfl⟩
          replace H:(ample_small.l0 k1 l0 a1 y118 (Int.tmod (Go.bits .or .u64 (IntKind.u64.wrap (x7_1*4294967296)) (IntKind.u64.wrap (rd l0 x8_1))) (IntKind.u64.wrap (a1))) (wrap64 (x8_1-1)))=some (r1,r2):=by first|(rw [hy118]; with_reducible exact H)|(have H2_:=(Option.bind_some _ _).symm.trans H; rw [hy118]; with_reducible exact H2_)|(have H2_:=(Option.bind_some _ _).symm.trans H; with_reducible exact H2_)|with_reducible exact H|(rw [hy118]; exact H)|exact H
          have Ny118:=Aside0.mk hy118
          clear hy118
          have H':=Aside0.mk H
          clear H
          have p117:0≤(x8_1:Int):=of_decide_eq_true (by first|(with_reducible assumption)|assumption)
          have q117:x8_1<(l0.length:Int):=of_decide_eq_true (by first|(with_reducible assumption)|assumption)
          obtain ⟨ad117,e117,hx117_0⟩:=Kd.at_int HR0.out x8_1 p117 q117
          cases e117
          replace hx117_0:=(HB.out.cell (World.block_lt_of_cell? w _ hx117_0)).trans hx117_0
          replace p117:=eq_true p117
          replace q117:=eq_true q117
          have p12:0≤(x8_1:Int):=of_decide_eq_true (by first|(with_reducible assumption)|assumption)
          have q12:(x8_1:Int)<((x6_1.length:Int):Int):=of_decide_eq_true (by first|(with_reducible assumption)|assumption)
          obtain ⟨go12,co12,eo12,gb12,gl12,cl12,HG12⟩:=Kd.R_form HO_6.out (by omega)
          (first|cases eo12|(injection eo12 with ea_ en_ ec_; (first|subst ea_|(injection ea_ with ea_; subst ea_)); subst ec_; clear en_))
          have GB12:=Aside0.mk gb12
          have GG12:=Aside0.mk HG12
          clear gb12 gl12 HG12
          obtain ⟨hx12_0,hf12_0⟩:=Kd.R_celln 0 HO_6.out (x8_1:Int) p12 q12
          replace p12:=eq_true p12
          replace q12:=eq_true q12
          have HP13:=Kd.R_putg HO_6.out (x8_1:Int) ((IntKind.u64.wrap (Int.tdiv (Go.bits .or .u64 (IntKind.u64.wrap (x7_1*4294967296)) (IntKind.u64.wrap (rd l0 x8_1))) (IntKind.u64.wrap (a1))))%4294967296)
          go_wp2_with (first|((with_reducible refine za3 (t:=144) (p:=34) rfl ?_); refine zaU (t:=144) (p:=34) (v:=?vo_w14) (w1:=(wr.setCell ⟨go12,(x8_1:Int).toNat,none⟩ (.int .u32 ((IntKind.u64.wrap (Int.tdiv (Go.bits .or .u64 (IntKind.u64.wrap (x7_1*4294967296)) (IntKind.u64.wrap (rd l0 x8_1))) (IntKind.u64.wrap (a1))))%4294967296)))) ?hg ?ho ?hn ?hr ?_; (case ho=>rfl); (case hg=>rfl); (case hn=>rfl); (case hr=>first|(go_simp; done)|(go_simp; rfl)); intro w14 hw; have hg:wr.grownBy w14 (some go12):=(by rw [hw]; exact HP13.2); have hp_:Kd.R (Kd.int .u32) 144 w14 w.heap.size (fun _=>True) (.slice (some ⟨go12,0,none⟩) x6_1.length co12) y118:=(by rw [hw,Ny118.out]; exact HP13.1); clear HP13; have n0_:=Aside0.mk (hp_); have n1_:=Aside0.mk ((by rw [hw]; exact zag (HB.out) GB12.out:Below w.heap.size w w14)); clear HO_6; clear HB; have HO_6:=n0_; have HB:=n1_; clear n0_ n1_; clear hg hw hp_))
          go_roundg k1
          case measure=>have:=HK1.out; omega
          case rel=>exact ⟨(y118),(Int.tmod (Go.bits .or .u64 (IntKind.u64.wrap (x7_1*4294967296)) (IntKind.u64.wrap (rd l0 x8_1))) (IntKind.u64.wrap (a1))),(wrap64 (x8_1-1)),(by first|rfl|(simp; done)|(simp [*]; done)),(by first|rfl|(simp; done)|(simp [*]; done)),H',⟨by have:=HK1.out; omega⟩,⟨by (with_reducible repeat (first|apply Kd.R_alloc|apply Kd.R_drewN|apply Kd.R_drew)); exact HO_6.out⟩,⟨by repeat (first|(with_reducible first|exact HB.out|apply zaa|apply zab|apply zae)|exact HB.out)⟩⟩
         ·rw [if_neg c11] at H
          exact absurd H (by simp)
       ·rw [if_neg c9] at H
        exact absurd H (by simp)
      ·rw [if_neg c8] at H
       exact absurd H (by simp)
     ·rw [if_neg c7] at H
      have c7b0:decide (0≤x8_1)=false:=decide_eq_false c7
      clear c7
      simp only [Option.some.injEq,Prod.mk.injEq] at H
      obtain ⟨rfl,rfl⟩:=H
      go_wp2
      go_ret2
      exact ⟨_,by first|rfl|(simp [zak,zaj]<;>rfl)|(simp [*,zak,zaj]<;>rfl),by (with_reducible repeat (first|apply Kd.R_alloc|apply Kd.R_drewN|apply Kd.R_drew)); exact HO_6.out,by repeat (first|(with_reducible first|exact HB.out|apply zaa|apply zab|apply zae)|exact HB.out)⟩
  ·rw [if_neg c4] at H
   exact absurd H (by simp)
 ·rw [if_neg c3] at H
  exact absurd H (by simp)
def ample_left.l0:Nat→Int→List Int→List Int→Int→Int→Option (List Int)
 | 0,_,_,_,_,_=>none
 | k+1,x1,x5,x13,x14,x15=>if x15<x14 then (if 0≤x15 then (if x15<(x13.length:Int) then (if 0≤x1 then (if x15<(x5.length:Int) then (if 0≤(wrap64 (x15+1)) then (if (wrap64 (x15+1))<(x5.length:Int) then (ample_left.l0 k x1 ((x5.set (x15:Int).toNat (Go.bits .or .u32 (rd x5 x15) ((shl .u64 (IntKind.u64.wrap (rd x13 x15)) x1)%4294967296))).set ((wrap64 (x15+1)):Int).toNat (((shl .u64 (IntKind.u64.wrap (rd x13 x15)) x1)/4294967296)%4294967296)) x13 x14 (wrap64 (x15+1))) else (none)) else (none)) else (none)) else (none)) else (none)) else (none)) else (some x5)
def ample_left.f (k:Nat) (l0:List Int) (a1:Int):Option (List Int):=if 0≤(wrap64 ((l0.length:Int)+1)) then (if (wrap64 ((l0.length:Int)+1):Int).toNat≤70368744177664 then (ample_left.l0 k a1 (List.replicate (wrap64 ((l0.length:Int)+1):Int).toNat 0) l0 (l0.length:Int) 0) else (none)) else (none)
theorem ample_left.calls (k : Nat) (A0 : Option Addr) (c0 : Nat) (l0 : List Int) (a1 : Int) (r : List Int) (w : World) (hr0 : Kd.C (Kd.int .u32) w A0 l0.length l0) (hc0 : l0.length ≤ c0) (h : ample_left.f k l0 a1 = some r) :
  Calls Tryz.prog 242 #[.slice A0 l0.length c0,.int .i64 a1] w fun e w'=>∃ v0_:Value,e = .returned (v0_)∧Kd.R (Kd.int .u32) 144 w' w.heap.size (fun _=>True) v0_ r∧Below w.heap.size w w':=by
 have HR0:=Aside0.mk hr0
 have HC0:=Aside0.mk hc0
 clear hr0 hc0
 have HB:=Aside0.mk (Below.refl w.heap.size w)
 have H:(if 0≤(wrap64 ((l0.length:Int)+1)) then (if (wrap64 ((l0.length:Int)+1):Int).toNat≤70368744177664 then (ample_left.l0 k a1 (List.replicate (wrap64 ((l0.length:Int)+1):Int).toNat 0) l0 (l0.length:Int) 0) else (none)) else (none))=some r:=h
 clear h
 obtain ⟨ji3,hji3⟩:∃ j_:Int,(wrap64 ((l0.length:Int)+1))=j_:=⟨_,rfl⟩
 replace H:(if 0≤(ji3) then (if (ji3:Int).toNat≤70368744177664 then (ample_left.l0 k a1 (List.replicate (ji3:Int).toNat 0) l0 (l0.length:Int) 0) else (none)) else (none))=some r:=by first|(rw [hji3] at H; exact H)|(simp only [hji3] at H ⊢; exact H)
 have hji3w:(IntKind.i64.wrap ((l0.length:Int)+1))=ji3:=(i64_w _).trans hji3
 by_cases c4:0≤(ji3)
 ·rw [if_pos c4] at H
  have c4b0:=eq_true c4
  have c4b1:decide (0≤(ji3))=true:=decide_eq_true c4
  clear c4
  by_cases c5:(ji3:Int).toNat≤70368744177664
  ·rw [if_pos c5] at H
   have c5b0:=eq_true c5
   have c5b1:decide ((ji3:Int).toNat≤70368744177664)=true:=decide_eq_true c5
   clear c5
   obtain ⟨y130,hy130⟩:∃ y_:List Int,y_=(List.replicate (ji3:Int).toNat 0):=⟨_,rfl⟩
   replace H:(ample_left.l0 k a1 y130 l0 (l0.length:Int) 0)=some r:=by first|(rw [hy130]; with_reducible exact H)|(have H2_:=(Option.bind_some _ _).symm.trans H; rw [hy130]; with_reducible exact H2_)|(have H2_:=(Option.bind_some _ _).symm.trans H; with_reducible exact H2_)|with_reducible exact H|(rw [hy130]; exact H)|exact H
   have Ny130:=Aside0.mk hy130
   clear hy130
   have H':=Aside0.mk H
   clear H
   go_enter Tryz.func242,Tryz.ntmps242
   go_wp2_with (first|((with_reducible refine za4 (N:=12) rfl ?_); refine Kd.R_make (Kd.int .u32) _ 144 rfl (N:=12) rfl 68 _ _ rfl ji3 rfl rfl Tryz.underlying68 (.int .u32 0) 4 info144 rfl (by decide) (by omega) 0 (ok:=fun _=>True) (okp:=fun _=>True) rfl (fun _ hk=>hk) trivial (of_decide_eq_true (by first|(with_reducible assumption)|assumption)) (Nat.le_trans (Nat.mul_le_mul_right _ (of_decide_eq_true (by first|(with_reducible assumption)|assumption):ji3.toNat≤70368744177664)) (by omega)) (Below.refl _ _) (Nat.le_refl _) ?_; intro v131 w6 ho7 hb hg_ hnew_; clear hg_ hnew_; (first|rw [←Ny130.out] at ho7|(simp only [Int.reduceToNat] at ho7; rw [←Ny130.out] at ho7)); have n0_:=Aside0.mk (Kd.R_lower ho7 (zaq (by repeat (first|(with_reducible first|exact HB.out|apply zaa|apply zab|apply zae)|exact HB.out)))); have n1_:=Aside0.mk (zar (by repeat (first|(with_reducible first|exact HB.out|apply zaa|apply zab|apply zae)|exact HB.out)) hb); clear HB; have HO132:=n0_; have HB:=n1_; clear n0_ n1_; clear hb ho7))
   go_loopg [15] k (fun kq v15 w'=>∃ (x5_1:List Int) (x15_1:Int),v15 = .int .i64 x15_1∧Aside0 (ample_left.l0 kq a1 x5_1 l0 (l0.length:Int) x15_1=some r)∧Aside0 (kq≤k)∧Aside0 (Kd.R (Kd.int .u32) 144 w' w.heap.size (fun _=>True) v131 x5_1)∧Aside0 (Below w.heap.size w w'))
   case atStart=>exact ⟨(y130),(0),(by first|rfl|(simp; done)|(simp [*]; done)),H',⟨Nat.le_refl _⟩,⟨by (with_reducible repeat (first|apply Kd.R_alloc|apply Kd.R_drewN|apply Kd.R_drew)); exact HO132.out⟩,⟨by repeat (first|(with_reducible first|exact HB.out|apply zaa|apply zab|apply zae)|exact HB.out)⟩⟩
   case round =>
    clear H'
    try clear c2
    try clear p2
    try clear c4
    try clear c4b0
    try clear c4b1
    try clear c5
    try clear c5b0
    try clear c5b1
    try clear p6
    obtain ⟨x5_1,x15_1,rfl,HA,HK1,HO_5,HB⟩:=hrel
    cases gk with
    | zero=>exact absurd HA.out (by simp [ample_left.l0])
    | succ k1 =>
     have H:=HA.out
     clear HA
     simp only [ample_left.l0] at H
     by_cases c8:x15_1<(l0.length:Int)
     ·rw [if_pos c8] at H
      have c8b0:decide (x15_1<(l0.length:Int))=true:=decide_eq_true c8
      clear c8
      by_cases c9:0≤x15_1
      ·rw [if_pos c9] at H
       have c9b0:decide (0≤x15_1)=true:=decide_eq_true c9
       clear c9
       by_cases c10:x15_1<(l0.length:Int)
       ·rw [if_pos c10] at H
        have c10b0:decide (x15_1<(l0.length:Int))=true:=decide_eq_true c10
        clear c10
        by_cases c11:0≤a1
        ·rw [if_pos c11] at H
         have c11b0:=eq_true c11
         have c11b1:decide (0≤a1)=true:=decide_eq_true c11
         clear c11
         obtain ⟨ji12,hji12⟩:∃ j_:Int,(shl .u64 (IntKind.u64.wrap (rd l0 x15_1)) a1)=j_:=⟨_,rfl⟩
         replace H:(if x15_1<(x5_1.length:Int) then (if 0≤(wrap64 (x15_1+1)) then (if (wrap64 (x15_1+1))<(x5_1.length:Int) then (ample_left.l0 k1 a1 ((x5_1.set (x15_1:Int).toNat (Go.bits .or .u32 (rd x5_1 x15_1) ((ji12)%4294967296))).set ((wrap64 (x15_1+1)):Int).toNat (((ji12)/4294967296)%4294967296)) l0 (l0.length:Int) (wrap64 (x15_1+1))) else (none)) else (none)) else (none))=some r:=by first|(rw [hji12] at H; exact H)|(simp only [hji12] at H ⊢; exact H)
         have hji12_:(IntKind.u64.wrap ((IntKind.u64.wrap (rd l0 x15_1))*2^min a1.toNat 64))=ji12:=hji12
         have hji12z:a1≤64→(IntKind.u64.wrap ((IntKind.u64.wrap (rd l0 x15_1))*2^a1.toNat))=ji12:=shl_small hji12
         by_cases c13:x15_1<(x5_1.length:Int)
         ·rw [if_pos c13] at H
          have c13b0:decide (x15_1<(x5_1.length:Int))=true:=decide_eq_true c13
          clear c13
          obtain ⟨y135,hy135⟩:∃ y_:List Int,y_=(x5_1.set (x15_1:Int).toNat (Go.bits .or .u32 (rd x5_1 x15_1) ((ji12)%4294967296))):=⟨_,rfl⟩
          replace H:(if 0≤(wrap64 (x15_1+1)) then (if (wrap64 (x15_1+1))<(x5_1.length:Int) then (ample_left.l0 k1 a1 (y135.set ((wrap64 (x15_1+1)):Int).toNat (((ji12)/4294967296)%4294967296)) l0 (l0.length:Int) (wrap64 (x15_1+1))) else (none)) else (none))=some r:=by first|(rw [hy135]; with_reducible exact H)|(have H2_:=(Option.bind_some _ _).symm.trans H; rw [hy135]; with_reducible exact H2_)|(have H2_:=(Option.bind_some _ _).symm.trans H; with_reducible exact H2_)|with_reducible exact H|(rw [hy135]; exact H)|exact H
          have Ny135:=Aside0.mk hy135
          clear hy135
          obtain ⟨ji15,hji15⟩:∃ j_:Int,(wrap64 (x15_1+1))=j_:=⟨_,rfl⟩
          replace H:(if 0≤(ji15) then (if (ji15)<(x5_1.length:Int) then (ample_left.l0 k1 a1 (y135.set ((ji15):Int).toNat (((ji12)/4294967296)%4294967296)) l0 (l0.length:Int) ji15) else (none)) else (none))=some r:=by first|(rw [hji15] at H; exact H)|(simp only [hji15] at H ⊢; exact H)
          have hji15w:(IntKind.i64.wrap (x15_1+1))=ji15:=(i64_w _).trans hji15
          by_cases c16:0≤(ji15)
          ·rw [if_pos c16] at H
           have c16b0:decide (0≤(ji15))=true:=decide_eq_true c16
           clear c16
           by_cases c17:(ji15)<(x5_1.length:Int)
           ·rw [if_pos c17] at H
            have c17b0:decide ((ji15)<(x5_1.length:Int))=true:=decide_eq_true c17
            clear c17
            obtain ⟨y136,hy136⟩:∃ y_:List Int,y_=(y135.set ((ji15):Int).toNat (((ji12)/4294967296)%4294967296)):=⟨_,rfl⟩
            replace H:(ample_left.l0 k1 a1 y136 l0 (l0.length:Int) ji15)=some r:=by first|(rw [hy136]; with_reducible exact H)|(have H2_:=(Option.bind_some _ _).symm.trans H; rw [hy136]; with_reducible exact H2_)|(have H2_:=(Option.bind_some _ _).symm.trans H; with_reducible exact H2_)|with_reducible exact H|(rw [hy136]; exact H)|exact H
            have Ny136:=Aside0.mk hy136
            clear hy136
            have H':=Aside0.mk H
            clear H
            have p133:0≤(x15_1:Int):=of_decide_eq_true (by first|(with_reducible assumption)|assumption)
            have q133:x15_1<(l0.length:Int):=of_decide_eq_true (by first|(with_reducible assumption)|assumption)
            obtain ⟨ad133,e133,hx133_0⟩:=Kd.at_int HR0.out x15_1 p133 q133
            cases e133
            replace hx133_0:=(HB.out.cell (World.block_lt_of_cell? w _ hx133_0)).trans hx133_0
            replace p133:=eq_true p133
            replace q133:=eq_true q133
            obtain ⟨Ao19,co19,eo19⟩:=Kd.R_slice HO_5.out
            subst eo19
            have p134:0≤(x15_1:Int):=of_decide_eq_true (by first|(with_reducible assumption)|assumption)
            have q134:x15_1<(x5_1.length:Int):=of_decide_eq_true (by first|(with_reducible assumption)|assumption)
            obtain ⟨ad134,e134,hx134_0⟩:=Kd.at_int (Kd.R_reads' HO_5.out).2.2 x15_1 p134 q134
            cases e134
            replace p134:=eq_true p134
            replace q134:=eq_true q134
            have p14:0≤(x15_1:Int):=of_decide_eq_true (by first|(with_reducible assumption)|assumption)
            have q14:(x15_1:Int)<((x5_1.length:Int):Int):=of_decide_eq_true (by first|(with_reducible assumption)|assumption)
            obtain ⟨go14,co14,eo14,gb14,gl14,cl14,HG14⟩:=Kd.R_form HO_5.out (by omega)
            (first|cases eo14|(injection eo14 with ea_ en_ ec_; (first|subst ea_|(injection ea_ with ea_; subst ea_)); subst ec_; clear en_))
            have GB14:=Aside0.mk gb14
            have GG14:=Aside0.mk HG14
            clear gb14 gl14 HG14
            (first|simp only [zbe] at hx134_0|skip)
            obtain ⟨hx14_0,hf14_0⟩:=Kd.R_celln 0 HO_5.out (x15_1:Int) p14 q14
            replace p14:=eq_true p14
            replace q14:=eq_true q14
            have HP20:=Kd.R_putg HO_5.out (x15_1:Int) (Go.bits .or .u32 (rd x5_1 x15_1) ((ji12)%4294967296))
            go_wp2_with (first|((with_reducible refine za3 (t:=144) (p:=31) rfl ?_); refine zaU (t:=144) (p:=31) (v:=?vo_w21) (w1:=(wr.setCell ⟨go14,(x15_1:Int).toNat,none⟩ (.int .u32 (Go.bits .or .u32 (rd x5_1 x15_1) ((ji12)%4294967296))))) ?hg ?ho ?hn ?hr ?_; (case ho=>rfl); (case hg=>rfl); (case hn=>rfl); (case hr=>first|(go_simp; done)|(go_simp; rfl)); intro w21 hw; have hg:wr.grownBy w21 (some go14):=(by rw [hw]; exact HP20.2); have hp_:Kd.R (Kd.int .u32) 144 w21 w.heap.size (fun _=>True) (.slice (some ⟨go14,0,none⟩) x5_1.length co19) y135:=(by rw [hw,Ny135.out]; exact HP20.1); clear HP20; have n0_:=Aside0.mk (hp_); have n1_:=Aside0.mk ((by rw [hw]; exact zag (HB.out) GB14.out:Below w.heap.size w w21)); clear HO_5; clear HB; have HO_5:=n0_; have HB:=n1_; clear n0_ n1_; clear hg hw hp_; have p18:0≤((ji15):Int):=of_decide_eq_true (by first|(with_reducible assumption)|assumption); have q18:((ji15):Int)<((x5_1.length:Int):Int):=of_decide_eq_true (by first|(with_reducible assumption)|assumption); obtain ⟨hx18_0,hf18_0⟩:=Kd.R_celln 0 HO_5.out ((ji15):Int) p18 q18; replace p18:=eq_true p18; replace q18:=eq_true q18; obtain ⟨hy22_,hz22_⟩:=Kd.R_celln 0 HO_5.out ((ji15):Int) (of_decide_eq_true (by first|(with_reducible assumption)|assumption)) (of_decide_eq_true (by first|(with_reducible assumption)|assumption)); have HP22:=Kd.R_putg HO_5.out ((ji15):Int) (((ji12)/4294967296)%4294967296))|((with_reducible refine za3 (t:=144) (p:=38) rfl ?_); refine zaU (t:=144) (p:=38) (v:=?vo_w23) (w1:=(w21.setCell ⟨go14,((ji15):Int).toNat,none⟩ (.int .u32 (((ji12)/4294967296)%4294967296)))) ?hg ?ho ?hn ?hr ?_; (case ho=>rfl); (case hg=>rfl); (case hn=>rfl); (case hr=>first|(go_simp; done)|(go_simp; rfl)); intro w23 hw; have hg:w21.grownBy w23 (some go14):=(by rw [hw]; exact HP22.2); have hp_:Kd.R (Kd.int .u32) 144 w23 w.heap.size (fun _=>True) (.slice (some ⟨go14,0,none⟩) x5_1.length co19) y136:=(by rw [hw,Ny136.out]; exact HP22.1); clear HP22; have n0_:=Aside0.mk (hp_); have n1_:=Aside0.mk ((by rw [hw]; exact zag (HB.out) GB14.out:Below w.heap.size w w23)); clear HO_5; clear HB; have HO_5:=n0_; have HB:=n1_; clear n0_ n1_; clear hg hw hp_))
            go_roundg k1
            case measure=>have:=HK1.out; omega
            case rel=>exact ⟨(y136),(ji15),(by first|rfl|(simp; done)|(simp only [←hji15]<;>(first|rfl|simp))|(simp [*]; done)),H',⟨by have:=HK1.out; omega⟩,⟨by (with_reducible repeat (first|apply Kd.R_alloc|apply Kd.R_drewN|apply Kd.R_drew)); exact HO_5.out⟩,⟨by repeat (first|(with_reducible first|exact HB.out|apply zaa|apply zab|apply zae)|exact HB.out)⟩⟩
           ·rw [if_neg c17] at H
            exact absurd H (by simp)
          ·rw [if_neg c16] at H
           exact absurd H (by simp)
         ·rw [if_neg c13] at H
          exact absurd H (by simp)
        ·rw [if_neg c11] at H
         exact absurd H (by simp)
       ·rw [if_neg c10] at H
        exact absurd H (by simp)
      ·rw [if_neg c9] at H
       exact absurd H (by simp)
     ·rw [if_neg c8] at H
      have c8b0:decide (x15_1<(l0.length:Int))=false:=decide_eq_false c8
      clear c8
      obtain rfl:=Option.some.inj H
      go_wp2
      go_ret
      exact ⟨_,by first|rfl|(simp [zak,zaj]<;>rfl)|(simp only [←hji3]; first|rfl|(simp [zak,zaj]<;>rfl))|(simp [*,zak,zaj]<;>rfl),by (with_reducible repeat (first|apply Kd.R_alloc|apply Kd.R_drewN|apply Kd.R_drew)); exact HO_5.out,by repeat (first|(with_reducible first|exact HB.out|apply zaa|apply zab|apply zae)|exact HB.out)⟩
  ·rw [if_neg c5] at H
   exact absurd H (by simp)
 ·rw [if_neg c4] at H
  exact absurd H (by simp)
end Go.Proofs.ZP
end
