/- Texts under the proof, joined by a program (prune.py): QRefParse, QRatParse, Q1, Q124, QAwake. -/
import Derived.Test.YtocfocjfdpegmaaGreatDoorCRatParses16
import Derived.RegionTactic
import Derived.ChangeAlike
import Derived.Test.YtocfocjfdpegmaaGreatDoorCRatParses08
import Derived.StillTailTactics
import Derived.Test.YtocfocjfdpegmaaGreatDoorCRatParses12
import Derived.Test.YtocfocjfdpegmaaGreatDoorCRatParses13
set_option linter.unusedVariables false
set_option linter.unusedSimpArgs false
set_option exponentiation.threshold 20001
set_option maxHeartbeats 8000000
set_option maxRecDepth 100000
section
namespace Go.Proofs.ZQ
open Go.RowKit Go.Proofs.ZW.Wa Go.Proofs.ZW.Wb Go.Proofs.ZW.Wc Go.Proofs.ZP
def pV (u v:ByteArray) (e k:Int):Value:=.tuple #[.agg #[.string u,.string v],.int .i64 e,.int .i64 k]
theorem bal {w W:World} {R:Nat} (e:w.heap.size=R) (h:Below R w W) (o:Obj):Below R w (W.alloc o):=by subst e; exact zaa h o
theorem zcC {w w2:World} {R:Nat} {x y:ByteArray} (e:w.heap.size=R) (f:RbAt w2 R x y) (hb:Below R w w2) (u v:ByteArray):RbAt ((w2.setCell ⟨R,0,none⟩ (.string u)).setCell ⟨R,1,none⟩ (.string v)) R u v∧Below R w ((w2.setCell ⟨R,0,none⟩ (.string u)).setCell ⟨R,1,none⟩ (.string v)):=by
 subst e; exact ⟨(zav (zav f 0 (.string u)) 1 (.string v)).trans rfl,zag (zag hb (Nat.le_refl _)) (Nat.le_refl _)⟩
theorem pr_size (s:ByteArray) (hs:65536<s.size):Ans 46 #[.string s] (pV ⟨#[]⟩ ⟨#[]⟩ 4 0):=by
 intro w
 have hbk:RbAt (w.alloc (.cells #[.string ⟨#[]⟩,.string ⟨#[]⟩] 23)) w.heap.size ⟨#[]⟩ ⟨#[]⟩:=RbAt.new w _ _
 have HBA:=Lib.hid (zaa (Below.refl w.heap.size w) (.cells #[.string ⟨#[]⟩,.string ⟨#[]⟩] 23))
 have HK:=Lib.hid hbk
 clear hbk
 have hsI:(65536:Int)<(s.size:Int):=by omega
 go_enter Tryz.func46,Tryz.ntmps46
 go_wp2
 refine bodyPost_ret (zaw rfl _ _ w.heap.size 23 #[.string ⟨#[]⟩,.string ⟨#[]⟩] (0,0) _ rfl HK.out Tryz.underlying23 rfl (by kernel_rfl)) rfl ?_
 exact ⟨rfl,HBA.out⟩
theorem pr_form (s:ByteArray) (hs:s.size≤65536) (n:Bool) (m x:ByteArray) (d:Bool) (p:Int) (g:ByteArray) (a:Int) (k:Int) (hk:0≤k) (HF:Ans 116 #[.string s] (.tuple #[.agg #[.bool n,.string m,.string x,.bool d,.int .i64 p,.string g,.int .i64 a],.int .i64 k])):Ans 46 #[.string s] (pV ⟨#[]⟩ ⟨#[]⟩ 3 k):=by
 intro w
 have hbk:RbAt (w.alloc (.cells #[.string ⟨#[]⟩,.string ⟨#[]⟩] 23)) w.heap.size ⟨#[]⟩ ⟨#[]⟩:=RbAt.new w _ _
 have HBA:=Lib.hid (zaa (Below.refl w.heap.size w) (.cells #[.string ⟨#[]⟩,.string ⟨#[]⟩] 23))
 have HK:=Lib.hid hbk
 clear hbk
 have hk2:(0:Int)≤k:=hk
 have hsI:¬ (65536:Int)<(s.size:Int):=by omega
 have HF:=Lib.hid HF
 go_enter Tryz.func46,Tryz.ntmps46
 go_wp2_with fail
 generalize w.alloc (.cells #[.string ⟨#[]⟩,.string ⟨#[]⟩] 23)=W0 at *
 generalize hBe:w.heap.size=B0 at *
 have HBE:=Lib.hid hBe
 clear hBe
 refine (HF.out _).mono ?_
 rintro e w1 ⟨rfl,hb1⟩
 have hct:CtAt (w1.alloc (.cells #[.bool n,.string m,.string x,.bool d,.int .i64 p,.string g,.int .i64 a] 120)) w1.heap.size ⟨n,m,x,d,p,g,a⟩:=zau w1 _
 have HC:=Lib.hid hct
 have HK:=Lib.hid ((HK.out.below hb1).alloc (.cells #[.bool n,.string m,.string x,.bool d,.int .i64 p,.string g,.int .i64 a] 120))
 have HBA:=Lib.hid (bal HBE.out (bth HBE.out HBA.out hb1) (.cells #[.bool n,.string m,.string x,.bool d,.int .i64 p,.string g,.int .i64 a] 120))
 clear hct
 clear hb1
 obtain ⟨hF,hBF⟩:=zcC HBE.out HK.out HBA.out ⟨#[]⟩ ⟨#[]⟩
 have HFF:=Lib.hid hF
 have HBF:=Lib.hid hBF
 clear hF hBF
 have cB0:=HK.out.c0
 have cB1:=HK.out.c1
 have fB0:=zad HK.out 0
 have fB1:=zad HK.out 1
 go_wp2
 refine bodyPost_ret (zaw rfl _ _ B0 23 #[.string ⟨#[]⟩,.string ⟨#[]⟩] (0,0) _ rfl HFF.out Tryz.underlying23 rfl (by kernel_rfl)) rfl ?_
 exact ⟨rfl,by have h:=HBF.out; have e:=HBE.out; subst e; exact h⟩
theorem pr_zero (s:ByteArray) (hs:s.size≤65536) (n:Bool) (m x:ByteArray) (d:Bool) (p:Int) (a:Int) (k:Int) (hk:k<0) (HF:Ans 116 #[.string s] (.tuple #[.agg #[.bool n,.string m,.string x,.bool d,.int .i64 p,.string ⟨#[48]⟩,.int .i64 a],.int .i64 k])):Ans 46 #[.string s] (pV ⟨#[]⟩ ⟨#[]⟩ 8 a):=by
 intro w
 have hbk:RbAt (w.alloc (.cells #[.string ⟨#[]⟩,.string ⟨#[]⟩] 23)) w.heap.size ⟨#[]⟩ ⟨#[]⟩:=RbAt.new w _ _
 have HBA:=Lib.hid (zaa (Below.refl w.heap.size w) (.cells #[.string ⟨#[]⟩,.string ⟨#[]⟩] 23))
 have HK:=Lib.hid hbk
 clear hbk
 have hk2:¬ (0:Int)≤k:=by omega
 have hsI:¬ (65536:Int)<(s.size:Int):=by omega
 have HF:=Lib.hid HF
 go_enter Tryz.func46,Tryz.ntmps46
 go_wp2_with fail
 generalize w.alloc (.cells #[.string ⟨#[]⟩,.string ⟨#[]⟩] 23)=W0 at *
 generalize hBe:w.heap.size=B0 at *
 have HBE:=Lib.hid hBe
 clear hBe
 refine (HF.out _).mono ?_
 rintro e w1 ⟨rfl,hb1⟩
 have hct:CtAt (w1.alloc (.cells #[.bool n,.string m,.string x,.bool d,.int .i64 p,.string ⟨#[48]⟩,.int .i64 a] 120)) w1.heap.size ⟨n,m,x,d,p,⟨#[48]⟩,a⟩:=zau w1 _
 have HC:=Lib.hid hct
 have HK:=Lib.hid ((HK.out.below hb1).alloc (.cells #[.bool n,.string m,.string x,.bool d,.int .i64 p,.string ⟨#[48]⟩,.int .i64 a] 120))
 have HBA:=Lib.hid (bal HBE.out (bth HBE.out HBA.out hb1) (.cells #[.bool n,.string m,.string x,.bool d,.int .i64 p,.string ⟨#[48]⟩,.int .i64 a] 120))
 clear hct
 clear hb1
 have c5:=HC.out.c5
 have c6:=HC.out.c6
 obtain ⟨hF,hBF⟩:=zcC HBE.out HK.out HBA.out ⟨#[]⟩ ⟨#[]⟩
 have HFF:=Lib.hid hF
 have HBF:=Lib.hid hBF
 clear hF hBF
 have cB0:=HK.out.c0
 have cB1:=HK.out.c1
 have fB0:=zad HK.out 0
 have fB1:=zad HK.out 1
 have fr6:=HC.out.c6
 go_wp2_with fail
 go_region
 all_goals go_wp2
 all_goals refine bodyPost_ret (zaw rfl _ _ B0 23 #[.string ⟨#[]⟩,.string ⟨#[]⟩] (0,0) _ rfl (show _=some (Obj.cells #[.string ⟨#[]⟩,.string ⟨#[]⟩] 23 (0,0)) from HFF.out) Tryz.underlying23 rfl (by kernel_rfl)) rfl ?_
 all_goals exact ⟨rfl,by have h:=HBF.out; have e:=HBE.out; subst e; exact bthen h (zac _)⟩
theorem pr_large (s:ByteArray) (hs:s.size≤65536) (n:Bool) (m x:ByteArray) (d:Bool) (p:Int) (g:ByteArray) (a:Int) (k:Int) (hk:k<0) (hg:0<g.size) (hg0:(g.toList == ([48]:List UInt8))=false) (hl:600<m.size∨600<g.size) (HF:Ans 116 #[.string s] (.tuple #[.agg #[.bool n,.string m,.string x,.bool d,.int .i64 p,.string g,.int .i64 a],.int .i64 k])):Ans 46 #[.string s] (pV ⟨#[]⟩ ⟨#[]⟩ 7 0):=by
 have hgn:=tl_ne hg
 have hgn2:=bs_ne (s:=g) (by omega)
 obtain ⟨hgn3,hgn4⟩:=hgn2
 intro w
 have hbk:RbAt (w.alloc (.cells #[.string ⟨#[]⟩,.string ⟨#[]⟩] 23)) w.heap.size ⟨#[]⟩ ⟨#[]⟩:=RbAt.new w _ _
 have HBA:=Lib.hid (zaa (Below.refl w.heap.size w) (.cells #[.string ⟨#[]⟩,.string ⟨#[]⟩] 23))
 have HK:=Lib.hid hbk
 clear hbk
 have hk2:¬ (0:Int)≤k:=by omega
 have hsI:¬ (65536:Int)<(s.size:Int):=by omega
 have HF:=Lib.hid HF
 go_enter Tryz.func46,Tryz.ntmps46
 go_wp2_with fail
 generalize w.alloc (.cells #[.string ⟨#[]⟩,.string ⟨#[]⟩] 23)=W0 at *
 generalize hBe:w.heap.size=B0 at *
 have HBE:=Lib.hid hBe
 clear hBe
 refine (HF.out _).mono ?_
 rintro e w1 ⟨rfl,hb1⟩
 have hct:CtAt (w1.alloc (.cells #[.bool n,.string m,.string x,.bool d,.int .i64 p,.string g,.int .i64 a] 120)) w1.heap.size ⟨n,m,x,d,p,g,a⟩:=zau w1 _
 have HC:=Lib.hid hct
 have HK:=Lib.hid ((HK.out.below hb1).alloc (.cells #[.bool n,.string m,.string x,.bool d,.int .i64 p,.string g,.int .i64 a] 120))
 have HBA:=Lib.hid (bal HBE.out (bth HBE.out HBA.out hb1) (.cells #[.bool n,.string m,.string x,.bool d,.int .i64 p,.string g,.int .i64 a] 120))
 clear hct
 clear hb1
 have c1:=HC.out.c1
 have c5:=HC.out.c5
 obtain ⟨hF,hBF⟩:=zcC HBE.out HK.out HBA.out ⟨#[]⟩ ⟨#[]⟩
 have HFF:=Lib.hid hF
 have HBF:=Lib.hid hBF
 clear hF hBF
 have cB0:=HK.out.c0
 have cB1:=HK.out.c1
 have fB0:=zad HK.out 0
 have fB1:=zad HK.out 1
 by_cases hm:600<m.size
 ·have b1:(600:Int)<(m.size:Int):=by omega
  go_wp2
  refine bodyPost_ret (zaw rfl _ _ B0 23 #[.string ⟨#[]⟩,.string ⟨#[]⟩] (0,0) _ rfl HFF.out Tryz.underlying23 rfl (by kernel_rfl)) rfl ?_
  exact ⟨rfl,by have h:=HBF.out; have e:=HBE.out; subst e; exact h⟩
 ·have b1:¬ (600:Int)<(m.size:Int):=by omega
  have b2:(600:Int)<(g.size:Int):=by omega
  go_wp2
  refine bodyPost_ret (zaw rfl _ _ B0 23 #[.string ⟨#[]⟩,.string ⟨#[]⟩] (0,0) _ rfl HFF.out Tryz.underlying23 rfl (by kernel_rfl)) rfl ?_
  exact ⟨rfl,by have h:=HBF.out; have e:=HBE.out; subst e; exact h⟩
theorem pr_frac (s:ByteArray) (hs:s.size≤65536) (n:Bool) (m x:ByteArray) (d:Bool) (p:Int) (g:ByteArray) (a:Int) (k:Int) (hk:k<0) (hg:0<g.size) (hg0:(g.toList == ([48]:List UInt8))=false) (hl:¬ 600<m.size) (hl2:¬ 600<g.size) (F0:Bool) (F1 F2:ByteArray) (u v:ByteArray) (e0:Int) (HF:Ans 116 #[.string s] (.tuple #[.agg #[.bool n,.string m,.string x,.bool d,.int .i64 p,.string g,.int .i64 a],.int .i64 k])) (HL:Ans 72 #[.bool n,.string m,.string g] (.agg #[.bool F0,.string F1,.string F2])) (HT:Ans 71 #[.agg #[.bool F0,.string F1,.string F2]] (.tuple #[.agg #[.string u,.string v],.int .i64 e0])):Ans 46 #[.string s] (pV u v e0 0):=by
 have hgn:=tl_ne hg
 have hgn2:=bs_ne (s:=g) (by omega)
 obtain ⟨hgn3,hgn4⟩:=hgn2
 have b1:¬ (600:Int)<(m.size:Int):=by omega
 have b2:¬ (600:Int)<(g.size:Int):=by omega
 have HL:=Lib.hid HL
 have HT:=Lib.hid HT
 intro w
 have hbk:RbAt (w.alloc (.cells #[.string ⟨#[]⟩,.string ⟨#[]⟩] 23)) w.heap.size ⟨#[]⟩ ⟨#[]⟩:=RbAt.new w _ _
 have HBA:=Lib.hid (zaa (Below.refl w.heap.size w) (.cells #[.string ⟨#[]⟩,.string ⟨#[]⟩] 23))
 have HK:=Lib.hid hbk
 clear hbk
 have hk2:¬ (0:Int)≤k:=by omega
 have hsI:¬ (65536:Int)<(s.size:Int):=by omega
 have HF:=Lib.hid HF
 go_enter Tryz.func46,Tryz.ntmps46
 go_wp2_with fail
 generalize w.alloc (.cells #[.string ⟨#[]⟩,.string ⟨#[]⟩] 23)=W0 at *
 generalize hBe:w.heap.size=B0 at *
 have HBE:=Lib.hid hBe
 clear hBe
 refine (HF.out _).mono ?_
 rintro e w1 ⟨rfl,hb1⟩
 have hct:CtAt (w1.alloc (.cells #[.bool n,.string m,.string x,.bool d,.int .i64 p,.string g,.int .i64 a] 120)) w1.heap.size ⟨n,m,x,d,p,g,a⟩:=zau w1 _
 have HC:=Lib.hid hct
 have HK:=Lib.hid ((HK.out.below hb1).alloc (.cells #[.bool n,.string m,.string x,.bool d,.int .i64 p,.string g,.int .i64 a] 120))
 have HBA:=Lib.hid (bal HBE.out (bth HBE.out HBA.out hb1) (.cells #[.bool n,.string m,.string x,.bool d,.int .i64 p,.string g,.int .i64 a] 120))
 clear hct
 clear hb1
 have c0:=HC.out.c0
 have c1:=HC.out.c1
 have c5:=HC.out.c5
 go_wp2_with fail
 refine (HL.out _).mono ?_
 rintro e w2 ⟨rfl,hb2⟩
 clear c0 c1 c5
 go_wp2_with fail
 refine (HT.out _).mono ?_
 rintro e w3 ⟨rfl,hb3⟩
 have HK:=Lib.hid (((HK.out.below hb2).below hb3).alloc (.cells #[.string u,.string v] 23))
 have HX:=Lib.hid (RbAt.new w3 u v)
 have HBA:=Lib.hid (bal HBE.out (bth HBE.out (bth HBE.out HBA.out hb2) hb3) (.cells #[.string u,.string v] 23))
 clear hb2 hb3
 obtain ⟨hF,hBF⟩:=zcC HBE.out HK.out HBA.out u v
 have HFF:=Lib.hid hF
 have HBF:=Lib.hid hBF
 clear hF hBF
 have cB0:=HK.out.c0
 have cB1:=HK.out.c1
 have fB0:=zad HK.out 0
 have fB1:=zad HK.out 1
 have x0:=HX.out.c0
 have x1:=HX.out.c1
 go_wp2
 refine bodyPost_ret (zaw rfl _ _ B0 23 #[.string u,.string v] (0,0) _ rfl HFF.out Tryz.underlying23 rfl (by kernel_rfl)) rfl ?_
 exact ⟨rfl,by have h:=HBF.out; have e:=HBE.out; subst e; exact h⟩
theorem pr_ten (s:ByteArray) (hs:s.size≤65536) (n:Bool) (m x:ByteArray) (d:Bool) (p:Int) (g:ByteArray) (a:Int) (k:Int) (hk:k<0) (hg:g.size=0) (t:Int) (HF:Ans 116 #[.string s] (.tuple #[.agg #[.bool n,.string m,.string x,.bool d,.int .i64 p,.string g,.int .i64 a],.int .i64 k])) (HN:Ans 117 #[.agg #[.bool n,.string m,.string x,.bool d,.int .i64 p,.string g,.int .i64 a]] (.tuple #[.int .i64 t,.bool false])):Ans 46 #[.string s] (pV ⟨#[]⟩ ⟨#[]⟩ 7 0):=by
 have hgn:=bs_nil hg
 have HN:=Lib.hid HN
 intro w
 have hbk:RbAt (w.alloc (.cells #[.string ⟨#[]⟩,.string ⟨#[]⟩] 23)) w.heap.size ⟨#[]⟩ ⟨#[]⟩:=RbAt.new w _ _
 have HBA:=Lib.hid (zaa (Below.refl w.heap.size w) (.cells #[.string ⟨#[]⟩,.string ⟨#[]⟩] 23))
 have HK:=Lib.hid hbk
 clear hbk
 have hk2:¬ (0:Int)≤k:=by omega
 have hsI:¬ (65536:Int)<(s.size:Int):=by omega
 have HF:=Lib.hid HF
 go_enter Tryz.func46,Tryz.ntmps46
 go_wp2_with fail
 generalize w.alloc (.cells #[.string ⟨#[]⟩,.string ⟨#[]⟩] 23)=W0 at *
 generalize hBe:w.heap.size=B0 at *
 have HBE:=Lib.hid hBe
 clear hBe
 refine (HF.out _).mono ?_
 rintro e w1 ⟨rfl,hb1⟩
 have hct:CtAt (w1.alloc (.cells #[.bool n,.string m,.string x,.bool d,.int .i64 p,.string g,.int .i64 a] 120)) w1.heap.size ⟨n,m,x,d,p,g,a⟩:=zau w1 _
 have HC:=Lib.hid hct
 have HK:=Lib.hid ((HK.out.below hb1).alloc (.cells #[.bool n,.string m,.string x,.bool d,.int .i64 p,.string g,.int .i64 a] 120))
 have HBA:=Lib.hid (bal HBE.out (bth HBE.out HBA.out hb1) (.cells #[.bool n,.string m,.string x,.bool d,.int .i64 p,.string g,.int .i64 a] 120))
 clear hct
 clear hb1
 have c0:=HC.out.c0
 have c1:=HC.out.c1
 have c2:=HC.out.c2
 have c3:=HC.out.c3
 have c4:=HC.out.c4
 have c5:=HC.out.c5
 have c6:=HC.out.c6
 go_wp2_with fail
 refine (HN.out _).mono ?_
 rintro e w2 ⟨rfl,hb2⟩
 have HK:=Lib.hid (HK.out.below hb2)
 have HC:=Lib.hid (HC.out.below hb2)
 have HBA:=Lib.hid (bth HBE.out HBA.out hb2)
 clear hb2 c0 c1 c2 c3 c4 c5 c6
 obtain ⟨hF,hBF⟩:=zcC HBE.out HK.out HBA.out ⟨#[]⟩ ⟨#[]⟩
 have HFF:=Lib.hid hF
 have HBF:=Lib.hid hBF
 clear hF hBF
 have cB0:=HK.out.c0
 have cB1:=HK.out.c1
 have fB0:=zad HK.out 0
 have fB1:=zad HK.out 1
 go_wp2
 refine bodyPost_ret (zaw rfl _ _ B0 23 #[.string ⟨#[]⟩,.string ⟨#[]⟩] (0,0) _ rfl HFF.out Tryz.underlying23 rfl (by kernel_rfl)) rfl ?_
 exact ⟨rfl,by have h:=HBF.out; have e:=HBE.out; subst e; exact h⟩
theorem pr_scl (s:ByteArray) (hs:s.size≤65536) (n:Bool) (m x:ByteArray) (d:Bool) (p:Int) (g:ByteArray) (a:Int) (k:Int) (hk:k<0) (hg:g.size=0) (t:Int) (F0:Bool) (F1 F2:ByteArray) (HF:Ans 116 #[.string s] (.tuple #[.agg #[.bool n,.string m,.string x,.bool d,.int .i64 p,.string g,.int .i64 a],.int .i64 k])) (HN:Ans 117 #[.agg #[.bool n,.string m,.string x,.bool d,.int .i64 p,.string g,.int .i64 a]] (.tuple #[.int .i64 t,.bool true])) (HS:Ans 118 #[.bool n,.string m,.int .i64 t] (.tuple #[.agg #[.bool F0,.string F1,.string F2],.bool false])):Ans 46 #[.string s] (pV ⟨#[]⟩ ⟨#[]⟩ 7 0):=by
 have HS:=Lib.hid HS
 have hgn:=bs_nil hg
 have HN:=Lib.hid HN
 intro w
 have hbk:RbAt (w.alloc (.cells #[.string ⟨#[]⟩,.string ⟨#[]⟩] 23)) w.heap.size ⟨#[]⟩ ⟨#[]⟩:=RbAt.new w _ _
 have HBA:=Lib.hid (zaa (Below.refl w.heap.size w) (.cells #[.string ⟨#[]⟩,.string ⟨#[]⟩] 23))
 have HK:=Lib.hid hbk
 clear hbk
 have hk2:¬ (0:Int)≤k:=by omega
 have hsI:¬ (65536:Int)<(s.size:Int):=by omega
 have HF:=Lib.hid HF
 go_enter Tryz.func46,Tryz.ntmps46
 go_wp2_with fail
 generalize w.alloc (.cells #[.string ⟨#[]⟩,.string ⟨#[]⟩] 23)=W0 at *
 generalize hBe:w.heap.size=B0 at *
 have HBE:=Lib.hid hBe
 clear hBe
 refine (HF.out _).mono ?_
 rintro e w1 ⟨rfl,hb1⟩
 have hct:CtAt (w1.alloc (.cells #[.bool n,.string m,.string x,.bool d,.int .i64 p,.string g,.int .i64 a] 120)) w1.heap.size ⟨n,m,x,d,p,g,a⟩:=zau w1 _
 have HC:=Lib.hid hct
 have HK:=Lib.hid ((HK.out.below hb1).alloc (.cells #[.bool n,.string m,.string x,.bool d,.int .i64 p,.string g,.int .i64 a] 120))
 have HBA:=Lib.hid (bal HBE.out (bth HBE.out HBA.out hb1) (.cells #[.bool n,.string m,.string x,.bool d,.int .i64 p,.string g,.int .i64 a] 120))
 clear hct
 clear hb1
 have c0:=HC.out.c0
 have c1:=HC.out.c1
 have c2:=HC.out.c2
 have c3:=HC.out.c3
 have c4:=HC.out.c4
 have c5:=HC.out.c5
 have c6:=HC.out.c6
 go_wp2_with fail
 refine (HN.out _).mono ?_
 rintro e w2 ⟨rfl,hb2⟩
 have HK:=Lib.hid (HK.out.below hb2)
 have HC:=Lib.hid (HC.out.below hb2)
 have HBA:=Lib.hid (bth HBE.out HBA.out hb2)
 clear hb2 c0 c1 c2 c3 c4 c5 c6
 have c0:=HC.out.c0
 have c1:=HC.out.c1
 go_wp2_with fail
 refine (HS.out _).mono ?_
 rintro e w3 ⟨rfl,hb3⟩
 have hfr:FrAt (w3.alloc (.cells #[.bool F0,.string F1,.string F2] 76)) w3.heap.size F0 F1 F2:=zau w3 _
 have HFR:=Lib.hid hfr
 clear hfr
 have HK:=Lib.hid ((HK.out.below hb3).alloc (.cells #[.bool F0,.string F1,.string F2] 76))
 have HBA:=Lib.hid (bal HBE.out (bth HBE.out HBA.out hb3) (.cells #[.bool F0,.string F1,.string F2] 76))
 clear hb3 c0 c1
 clear HC
 obtain ⟨hF,hBF⟩:=zcC HBE.out HK.out HBA.out ⟨#[]⟩ ⟨#[]⟩
 have HFF:=Lib.hid hF
 have HBF:=Lib.hid hBF
 clear hF hBF
 have cB0:=HK.out.c0
 have cB1:=HK.out.c1
 have fB0:=zad HK.out 0
 have fB1:=zad HK.out 1
 go_wp2
 refine bodyPost_ret (zaw rfl _ _ B0 23 #[.string ⟨#[]⟩,.string ⟨#[]⟩] (0,0) _ rfl HFF.out Tryz.underlying23 rfl (by kernel_rfl)) rfl ?_
 exact ⟨rfl,by have h:=HBF.out; have e:=HBE.out; subst e; exact h⟩
theorem pr_dec (s:ByteArray) (hs:s.size≤65536) (n:Bool) (m x:ByteArray) (d:Bool) (p:Int) (g:ByteArray) (a:Int) (k:Int) (hk:k<0) (hg:g.size=0) (t:Int) (F0:Bool) (F1 F2:ByteArray) (u v:ByteArray) (e0:Int) (HF:Ans 116 #[.string s] (.tuple #[.agg #[.bool n,.string m,.string x,.bool d,.int .i64 p,.string g,.int .i64 a],.int .i64 k])) (HN:Ans 117 #[.agg #[.bool n,.string m,.string x,.bool d,.int .i64 p,.string g,.int .i64 a]] (.tuple #[.int .i64 t,.bool true])) (HS:Ans 118 #[.bool n,.string m,.int .i64 t] (.tuple #[.agg #[.bool F0,.string F1,.string F2],.bool true])) (HT:Ans 71 #[.agg #[.bool F0,.string F1,.string F2]] (.tuple #[.agg #[.string u,.string v],.int .i64 e0])):Ans 46 #[.string s] (pV u v e0 0):=by
 have HS:=Lib.hid HS
 have HT:=Lib.hid HT
 have hgn:=bs_nil hg
 have HN:=Lib.hid HN
 intro w
 have hbk:RbAt (w.alloc (.cells #[.string ⟨#[]⟩,.string ⟨#[]⟩] 23)) w.heap.size ⟨#[]⟩ ⟨#[]⟩:=RbAt.new w _ _
 have HBA:=Lib.hid (zaa (Below.refl w.heap.size w) (.cells #[.string ⟨#[]⟩,.string ⟨#[]⟩] 23))
 have HK:=Lib.hid hbk
 clear hbk
 have hk2:¬ (0:Int)≤k:=by omega
 have hsI:¬ (65536:Int)<(s.size:Int):=by omega
 have HF:=Lib.hid HF
 go_enter Tryz.func46,Tryz.ntmps46
 go_wp2_with fail
 generalize w.alloc (.cells #[.string ⟨#[]⟩,.string ⟨#[]⟩] 23)=W0 at *
 generalize hBe:w.heap.size=B0 at *
 have HBE:=Lib.hid hBe
 clear hBe
 refine (HF.out _).mono ?_
 rintro e w1 ⟨rfl,hb1⟩
 have hct:CtAt (w1.alloc (.cells #[.bool n,.string m,.string x,.bool d,.int .i64 p,.string g,.int .i64 a] 120)) w1.heap.size ⟨n,m,x,d,p,g,a⟩:=zau w1 _
 have HC:=Lib.hid hct
 have HK:=Lib.hid ((HK.out.below hb1).alloc (.cells #[.bool n,.string m,.string x,.bool d,.int .i64 p,.string g,.int .i64 a] 120))
 have HBA:=Lib.hid (bal HBE.out (bth HBE.out HBA.out hb1) (.cells #[.bool n,.string m,.string x,.bool d,.int .i64 p,.string g,.int .i64 a] 120))
 clear hct
 clear hb1
 have c0:=HC.out.c0
 have c1:=HC.out.c1
 have c2:=HC.out.c2
 have c3:=HC.out.c3
 have c4:=HC.out.c4
 have c5:=HC.out.c5
 have c6:=HC.out.c6
 go_wp2_with fail
 refine (HN.out _).mono ?_
 rintro e w2 ⟨rfl,hb2⟩
 have HK:=Lib.hid (HK.out.below hb2)
 have HC:=Lib.hid (HC.out.below hb2)
 have HBA:=Lib.hid (bth HBE.out HBA.out hb2)
 clear hb2 c0 c1 c2 c3 c4 c5 c6
 have c0:=HC.out.c0
 have c1:=HC.out.c1
 go_wp2_with fail
 refine (HS.out _).mono ?_
 rintro e w3 ⟨rfl,hb3⟩
 have hfr:FrAt (w3.alloc (.cells #[.bool F0,.string F1,.string F2] 76)) w3.heap.size F0 F1 F2:=zau w3 _
 have HFR:=Lib.hid hfr
 clear hfr
 have HK:=Lib.hid ((HK.out.below hb3).alloc (.cells #[.bool F0,.string F1,.string F2] 76))
 have HBA:=Lib.hid (bal HBE.out (bth HBE.out HBA.out hb3) (.cells #[.bool F0,.string F1,.string F2] 76))
 clear hb3 c0 c1
 clear HC
 have f0:=HFR.out.c0
 have f1:=HFR.out.c1
 have f2:=HFR.out.c2
 go_wp2_with fail
 generalize w3.alloc (.cells #[.bool F0,.string F1,.string F2] 76)=W3 at *
 refine (HT.out _).mono ?_
 rintro e w4 ⟨rfl,hb4⟩
 clear f0 f1 f2
 have HK:=Lib.hid ((HK.out.below hb4).alloc (.cells #[.string u,.string v] 23))
 have HX:=Lib.hid (RbAt.new w4 u v)
 have HBA:=Lib.hid (bal HBE.out (bth HBE.out HBA.out hb4) (.cells #[.string u,.string v] 23))
 clear hb4
 obtain ⟨hF,hBF⟩:=zcC HBE.out HK.out HBA.out u v
 have HFF:=Lib.hid hF
 have HBF:=Lib.hid hBF
 clear hF hBF
 have cB0:=HK.out.c0
 have cB1:=HK.out.c1
 have fB0:=zad HK.out 0
 have fB1:=zad HK.out 1
 have x0:=HX.out.c0
 have x1:=HX.out.c1
 go_wp2
 refine bodyPost_ret (zaw rfl _ _ B0 23 #[.string u,.string v] (0,0) _ rfl HFF.out Tryz.underlying23 rfl (by kernel_rfl)) rfl ?_
 exact ⟨rfl,by have h:=HBF.out; have e:=HBE.out; subst e; exact h⟩
theorem digT_pos {s:ByteArray} {f:ZP.Fm} (h:ZP.Okf s f) (hb:(f.dig s).bad=false):0<(f.digT s).size:=by
 have h1:¬ ZP.runN s.data.toList f.at_=f.at_:=by
  intro e
  have:(f.dig s).bad=true:=by show (f.bad || decide _)=true; rw [decide_eq_true e,Bool.or_true]
  rw [this] at hb; cases hb
 have h2:=runN_ge s.data.toList f.at_
 have h3:=runN_le (l:=s.data.toList) (i:=f.at_) (by rw [zah]; exact h)
 rw [zah] at h3
 unfold Fm.digT
 rw [ByteArray.size_extract]
 omega
theorem dig_bad {s:ByteArray} {f:ZP.Fm} (h:(f.dig s).bad=false):f.bad=false:=by
 have:(f.bad || decide (ZP.runN s.data.toList f.at_=f.at_))=false:=h
 exact (Bool.or_eq_false_iff.1 this).1
theorem sgn_bad' (s set:ByteArray) (f:ZP.Fm):(f.sgn s set).bad=f.bad:=by unfold Fm.sgn; split<;>rfl
theorem sgn_fr (s set:ByteArray) (f:ZP.Fm):(f.sgn s set).fraction=f.fraction:=by unfold Fm.sgn; split<;>rfl
theorem sgn_den (s set:ByteArray) (f:ZP.Fm):(f.sgn s set).den=f.den:=by unfold Fm.sgn; split<;>rfl
structure Gf (f:ZP.Fm):Prop where
 m:f.bad=false→0<f.m.size
 d:f.bad=false→f.fraction=true→0<f.den.size
 e:f.fraction=false→f.den=⟨#[]⟩
theorem Gf.sgn {f:ZP.Fm} (h:Gf f) (s set:ByteArray):Gf (f.sgn s set):=
 ⟨fun k=>by rw [Fm.sgn_m]; exact h.m (by rw [←sgn_bad' s set]; exact k),fun k l=>by rw [sgn_den]; exact h.d (by rw [←sgn_bad' s set]; exact k) (by rw [←sgn_fr s set]; exact l),fun k=>by rw [sgn_den]; exact h.e (by rw [←sgn_fr s set]; exact k)⟩
theorem gf1 (s:ByteArray):Gf (ZP.form1 s)∧(ZP.form1 s).fraction=false:=by
 have h0:ZP.Okf s { ZP.F0.sgn s ZP.cM with neg:=ZP.F0.sgV s ZP.cM != 0 }:=(show ZP.Okf s ZP.F0 from Nat.zero_le _).sgn
 have hf:(ZP.form1 s).fraction=false:=by show (ZP.F0.sgn s ZP.cM).fraction=false; rw [sgn_fr]; rfl
 refine ⟨⟨fun k=>digT_pos h0 k,fun _ l => ?_,fun _ => ?_⟩,hf⟩
 ·rw [hf] at l; cases l
 ·show (ZP.F0.sgn s ZP.cM).den=_; rw [sgn_den]; rfl
theorem gfS {s:ByteArray} {f:ZP.Fm} (h:Gf f) (ho:ZP.Okf s f):Gf (ZP.formS s f):=by
 have h0:ZP.Okf s { f.sgn s ZP.cS with fraction:=true,slash:=(f.sgn s ZP.cS).at_ }:=ho.sgn
 refine ⟨fun k => ?_,fun k _=>digT_pos h0 k,fun k=>(by cases k)⟩
 have h1:(f.sgn s ZP.cS).bad=false:=dig_bad (f:={ f.sgn s ZP.cS with fraction:=true,slash:=(f.sgn s ZP.cS).at_ }) k
 rw [sgn_bad'] at h1
 show 0<(f.sgn s ZP.cS).m.size
 rw [Fm.sgn_m]; exact h.m h1
theorem gfP {s:ByteArray} {f:ZP.Fm} (h:Gf f):Gf (ZP.formP s f)∧(ZP.formP s f).fraction=f.fraction:=by
 unfold ZP.formP
 split
 ·exact ⟨h.sgn s _,sgn_fr s _ f⟩
 ·have hs:=h.sgn s ZP.cP
  refine ⟨⟨fun k => ?_,fun k l=>hs.d (dig_bad k) l,fun k=>hs.e k⟩,sgn_fr s _ f⟩
  show 0<((f.sgn s ZP.cP).m++_).size
  rw [ByteArray.size_append]
  have:=hs.m (dig_bad k)
  omega
theorem gfE {s:ByteArray} {f:ZP.Fm} (h:Gf f):Gf (ZP.formE s f)∧(ZP.formE s f).fraction=f.fraction:=by
 unfold ZP.formE
 split
 ·exact ⟨h.sgn s _,sgn_fr s _ f⟩
 ·have hs:=(h.sgn s ZP.cE).sgn s ZP.cPM
  have hfr:((f.sgn s ZP.cE).sgn s ZP.cPM).fraction=f.fraction:=by rw [sgn_fr,sgn_fr]
  show Gf (if _ then _ else _)∧(if _ then _ else _:ZP.Fm).fraction=_
  split
  ·exact ⟨⟨hs.m,hs.d,hs.e⟩,hfr⟩
  ·exact ⟨⟨fun k=>hs.m (dig_bad (f:={ (f.sgn s ZP.cE).sgn s ZP.cPM with minus:=(f.sgn s ZP.cE).sgV s ZP.cPM == 45 }) k),fun k l=>hs.d (dig_bad (f:={ (f.sgn s ZP.cE).sgn s ZP.cPM with minus:=(f.sgn s ZP.cE).sgV s ZP.cPM == 45 }) k) l,hs.e⟩,hfr⟩
theorem gfF (s:ByteArray):Gf (ZP.formF s):=by
 have h1:=(gf1 s).1
 unfold ZP.formF
 split
 ·exact (gfE (gfP (h1.sgn s _)).1).1
 ·exact gfS h1 (form1_ok s).1.at_
theorem end_good {s:ByteArray} {f:ZP.Fm} (h:f.end_ s=true):f.bad=false:=by
 unfold Fm.end_ at h
 rw [Bool.and_eq_true] at h
 simpa using h.1
theorem zcx {s:ByteArray} (h:s.size=0):(bareT s).size=0:=by unfold bareT; rw [ByteArray.size_extract]; omega
theorem told_frv (x:Rat):Ans 71 #[.agg #[.bool (Fr x).1,.string (Fr x).2.1,.string (Fr x).2.2]] (.tuple #[.agg #[.string (toldR x).1,.string (toldR x).2.1],.int .i64 (toldR x).2.2]):=told_ans x
theorem lowest_ans (s:Bool) (a b:Nat) (hb:0<b) (ha:(T a).size≤137438953472) (hbs:(T b).size≤137438953472):Ans 72 #[.bool s,.string (T a),.string (T b)] (.agg #[.bool (Fr (Rat.divInt (sgn s a) b)).1,.string (Fr (Rat.divInt (sgn s a) b)).2.1,.string (Fr (Rat.divInt (sgn s a) b)).2.2]):=fun W =>
 c2_Lowest.calls _ _ _ _ _ _ W (lowest_T s a b hb ha hbs)
theorem parse_ans (s : ByteArray) : Ans 46 #[.string s] (pV (ZP.parseF s).1 (ZP.parseF s).2.1 (ZP.parseF s).2.2.1 (ZP.parseF s).2.2.2) := by
 unfold ZP.parseF
 by_cases hs:65536<s.size
 ·rw [if_pos hs]; exact pr_size s hs
 ·have hs' : s.size ≤ 65536 := by omega
  rw [if_neg hs]
  have HF:=form_ans s hs'
  have hS:=form_same s
  have hg:=ZP.formF_ok s
  have hk:=gfF s
  generalize ZP.formF s=f at *
  cases he:f.end_ s
  ·rw [if_pos rfl]
   have h2:=hS.2 he
   generalize formR s=r at *
   obtain ⟨⟨n,m,x,d,p,g,a⟩,k⟩:=r
   exact pr_form s hs' n m x d p g a ((f.at_:Nat):Int) (by omega) (by rw [←h2]; exact HF)
  ·rw [if_neg (by decide)]
   have hb:=end_good he
   have h1:=hS.1 he
   rw [h1] at HF
   have hmd:=bare_T (hk.m hb) hg.m
   have hms:(T (dval f.m.data.toList)).size≤131072+1:=by
    have:=(zaB (n:=dval f.m.data.toList) (k:=131072+1) (by decide)).2 (Nat.lt_of_lt_of_le (dval_lt _ hg.m) (Nat.pow_le_pow_right (by decide) (by rw [zah]; have:=hg.mz; omega)))
    exact this
   cases hfr:f.fraction
   ·rw [if_neg (by decide)]
    have hde:f.den.size=0:=by rw [hk.e hfr]; rfl
    have hT:=ten_ans f.neg (bareT f.m) (bareT f.exp) f.minus (f.behind:Int) (bareT f.den) (f.slash:Int) (by omega) (by have:=hg.bh; omega) (by
     by_cases h0:f.exp.size=0
     ·exact Or.inl (zcx h0)
     ·right; rw [bare_T (by omega) hg.x,T_data]; exact dig_decl _)
    rw [ten_same (Or.inr hg.x)] at hT
    unfold ZP.decF
    cases hE:ZP.expE f with
    | none =>
     rw [hE] at hT
     exact pr_ten s hs' _ _ _ _ _ _ _ (-1) (by omega) (zcx hde) 0 HF hT
    | some e =>
     rw [hE] at hT
     have hE2 : -4096≤e∧e≤4096:=by
      unfold ZP.expE at hE
      split at hE
      ·cases hE; omega
      ·split at hE
       ·cases hE
       ·rename_i h9
        have:=Option.some.inj hE
        split at this<;>omega
     have hbh:=hg.bh
     have hS2:=scl_ans f.neg (dval f.m.data.toList) (e-(f.behind:Int)) (by omega) (by omega) (by omega)
     rw [←hmd] at hS2
     have hss:=scl_same f (dval f.m.data.toList) (e-(f.behind:Int))
     rw [Option.bind_some]
     cases hr:ZP.scaleF (dval f.m.data.toList) (e-(f.behind:Int)) with
     | none =>
      rw [hr] at hss
      rw [←hss] at hS2
      exact pr_scl s hs' _ _ _ _ _ _ _ (-1) (by omega) (zcx hde) (e-(f.behind:Int)) _ _ _ HF hT hS2
     | some x =>
      rw [hr] at hss
      rw [←hss] at hS2
      exact pr_dec s hs' _ _ _ _ _ _ _ (-1) (by omega) (zcx hde) (e-(f.behind:Int)) _ _ _ _ _ _ HF hT hS2 (told_frv (signed f x))
   ·rw [if_pos rfl]
    have hdp:=hk.d hb hfr
    have hdd:=bare_T hdp hg.d
    by_cases hB:dval f.den.data.toList=0
    ·rw [if_pos hB]
     rw [hdd,hB,←T_0] at HF
     exact pr_zero s hs' _ _ _ _ _ _ (-1) (by omega) HF
    ·rw [if_neg hB]
     have hgs:0<(bareT f.den).size:=by rw [hdd]; exact zb6 _
     have hg0:((bareT f.den).toList == ([48]:List UInt8))=false:=by rw [hdd]; exact t0_ne hB
     by_cases hl:600<(T (dval f.m.data.toList)).size∨600<(T (dval f.den.data.toList)).size
     ·rw [show ZP.fracF f=none from if_pos hl]
      exact pr_large s hs' _ _ _ _ _ _ _ (-1) (by omega) hgs hg0 (by rw [hmd,hdd]; exact hl) HF
     ·rw [show ZP.fracF f=some _ from if_neg hl]
      have hL:=lowest_ans f.neg (dval f.m.data.toList) (dval f.den.data.toList) (by omega) (by omega) (by omega)
      have e1:signed f (Rat.divInt ((dval f.m.data.toList:Nat):Int) ((dval f.den.data.toList:Nat):Int))=_:=signed_div f (dval f.m.data.toList) ((dval f.den.data.toList:Nat):Int)
      have hT:=told_frv (Rat.divInt (sgn f.neg (dval f.m.data.toList)) ((dval f.den.data.toList:Nat):Int))
      rw [←hmd,←hdd] at hL
      show Ans _ _ (pV (toldR (signed f _)).1 (toldR (signed f _)).2.1 (toldR (signed f _)).2.2 0)
      rw [e1]
      have l1:¬ 600<(bareT f.m).size:=by rw [hmd]; omega
      have l2:¬ 600<(bareT f.den).size:=by rw [hdd]; omega
      exact pr_frac s hs' _ _ _ _ _ _ _ (-1) (by omega) hgs hg0 l1 l2 _ _ _ _ _ _ HF hL hT
end Go.Proofs.ZQ
end
section
namespace Go.Proofs.ZQ
open Go.RowKit Go.Proofs.ZW.Wa Go.Proofs.ZP
theorem parse_size (s:ByteArray) (w:World) (hs:65536<s.size) :
  Calls Tryz.prog 45 #[.string s] w fun e w'=>e = .returned (.tuple #[.agg #[.string ((⟨#[]⟩,⟨#[]⟩,4,0):ByteArray×ByteArray×Int×Int).1,.string ((⟨#[]⟩,⟨#[]⟩,4,0):ByteArray×ByteArray×Int×Int).2.1],.int .i64 ((⟨#[]⟩,⟨#[]⟩,4,0):ByteArray×ByteArray×Int×Int).2.2.1,.int .i64 ((⟨#[]⟩,⟨#[]⟩,4,0):ByteArray×ByteArray×Int×Int).2.2.2])∧Below w.heap.size w w':=by
 have hba:=zaa (Below.refl w.heap.size w) (.cells #[.string ⟨#[]⟩,.string ⟨#[]⟩] 23)
 have hbk:=zau w (.cells #[.string ⟨#[]⟩,.string ⟨#[]⟩] 23)
 have hsI:(65536:Int)<(s.size:Int):=by omega
 have HK:=Lib.hid hbk
 clear hbk
 go_enter Tryz.func45,Tryz.ntmps45
 go_wp2
 refine bodyPost_ret (zaw rfl _ _ w.heap.size 23 #[.string ⟨#[]⟩,.string ⟨#[]⟩] (0,0) _ rfl HK.out Tryz.underlying23 rfl (by kernel_rfl)) rfl ?_
 exact ⟨rfl,hba⟩
theorem parse_form (s:ByteArray) (w:World) (hs:s.size≤65536) (f:Fm) (hf:formF s=f) (he:f.end_ s=false) :
  Calls Tryz.prog 45 #[.string s] w fun e w'=>e = .returned (.tuple #[.agg #[.string ((⟨#[]⟩,⟨#[]⟩,3,(f.at_:Int)):ByteArray×ByteArray×Int×Int).1,.string ((⟨#[]⟩,⟨#[]⟩,3,(f.at_:Int)):ByteArray×ByteArray×Int×Int).2.1],.int .i64 ((⟨#[]⟩,⟨#[]⟩,3,(f.at_:Int)):ByteArray×ByteArray×Int×Int).2.2.1,.int .i64 ((⟨#[]⟩,⟨#[]⟩,3,(f.at_:Int)):ByteArray×ByteArray×Int×Int).2.2.2])∧Below w.heap.size w w':=by
 have hba:=zaa (Below.refl w.heap.size w) (.cells #[.string ⟨#[]⟩,.string ⟨#[]⟩] 23)
 have hbk:=zau w (.cells #[.string ⟨#[]⟩,.string ⟨#[]⟩] 23)
 have HF:∀ W,Calls Tryz.prog 112 #[.string s] W fun e w'=>∃ g,e = .returned (.tuple #[.pointer (some ⟨g,0,none⟩),.bool (f.end_ s)])∧FSt W w' g s f:=fun W=>by
  subst hf
  exact zby s W hs
 have hsI:¬ (65536:Int)<(s.size:Int):=by omega
 rw [he] at HF
 clear hf he
 go_enter Tryz.func45,Tryz.ntmps45
 go_wp2_with fail
 generalize w.alloc (.cells #[.string ⟨#[]⟩,.string ⟨#[]⟩] 23)=W0 at *
 generalize hBe:w.heap.size=B0 at hbk ⊢
 have HBE:=Lib.hid (show w.heap.size≤B0 by omega)
 clear hBe
 refine (HF _).mono ?_
 rintro e w1 ⟨g,rfl,h1⟩
 have hB1:=bthen hba h1.below
 have hbk1:=(h1.below.block _ (zas hbk)).trans hbk
 have hgB:B0<g:=Nat.lt_of_lt_of_le (zas hbk) h1.ge
 clear HF hba hbk
 have c1:=h1.c 1 (.int .i64 f.at_) rfl
 generalize hA:f.at_=a at c1
 have HA:=Lib.hid hA
 clear hA h1
 have cB0:=(zaf hbk1 0).trans (show _=some (Value.string ⟨#[]⟩) from rfl)
 have cB1:=(zaf hbk1 1).trans (show _=some (Value.string ⟨#[]⟩) from rfl)
 have fB0:=zad hbk1 0
 have fB1:=zad hbk1 1
 have hs1:=zav hbk1 0 (.string ⟨#[]⟩)
 have hs2:=zav hs1 1 (.string ⟨#[]⟩)
 have HS2:=Lib.hid (hs2.trans (show _=some (Obj.cells #[.string ⟨#[]⟩,.string ⟨#[]⟩] 23 (0,0)) from rfl))
 have HBF:=Lib.hid (zag (zag (g:=B0) (j:=0) (v:=.string ⟨#[]⟩) hB1 HBE.out) (j:=1) (v:=.string ⟨#[]⟩) (g:=B0) HBE.out)
 clear hs1 hs2 hbk1
 go_wp2_with fail
 go_region
 all_goals go_wp2
 all_goals refine bodyPost_ret (zaw rfl _ _ B0 23 #[.string ⟨#[]⟩,.string ⟨#[]⟩] (0,0) _ rfl (show _=some (Obj.cells #[.string ⟨#[]⟩,.string ⟨#[]⟩] 23 (0,0)) from HS2.out) Tryz.underlying23 rfl (by kernel_rfl)) rfl ?_
 all_goals exact ⟨by rw [HA.out]; rfl,bthen HBF.out (zac _)⟩
theorem parse_zero (s:ByteArray) (w:World) (hs:s.size≤65536) (f:Fm) (hf:formF s=f) (hg:Gd s f) (he:f.end_ s=true) (hfr:f.fraction=true) (hB:dval f.den.data.toList=0) :
  Calls Tryz.prog 45 #[.string s] w fun e w'=>e = .returned (.tuple #[.agg #[.string ((⟨#[]⟩,⟨#[]⟩,8,(f.slash:Int)):ByteArray×ByteArray×Int×Int).1,.string ((⟨#[]⟩,⟨#[]⟩,8,(f.slash:Int)):ByteArray×ByteArray×Int×Int).2.1],.int .i64 ((⟨#[]⟩,⟨#[]⟩,8,(f.slash:Int)):ByteArray×ByteArray×Int×Int).2.2.1,.int .i64 ((⟨#[]⟩,⟨#[]⟩,8,(f.slash:Int)):ByteArray×ByteArray×Int×Int).2.2.2])∧Below w.heap.size w w':=by
 have hba:=zaa (Below.refl w.heap.size w) (.cells #[.string ⟨#[]⟩,.string ⟨#[]⟩] 23)
 have hbk:=zau w (.cells #[.string ⟨#[]⟩,.string ⟨#[]⟩] 23)
 have HF:∀ W,Calls Tryz.prog 112 #[.string s] W fun e w'=>∃ g,e = .returned (.tuple #[.pointer (some ⟨g,0,none⟩),.bool (f.end_ s)])∧FSt W w' g s f:=fun W=>by
  subst hf
  exact zby s W hs
 have hsI:¬ (65536:Int)<(s.size:Int):=by omega
 rw [he] at HF
 have HM:=fun W=>(zaJ f.m W hg.m).mono (fun e w' ⟨h1,h2⟩=>(⟨h1,h2.symm⟩:_∧w'=W))
 have HD:=fun W=>(zaJ f.den W hg.d).mono (fun e w' ⟨h1,h2⟩=>(⟨h1,h2.symm⟩:_∧w'=W))
 clear hf he hg
 generalize dval f.m.data.toList=A at *
 generalize dval f.den.data.toList=B at *
 go_enter Tryz.func45,Tryz.ntmps45
 go_wp2_with fail
 generalize w.alloc (.cells #[.string ⟨#[]⟩,.string ⟨#[]⟩] 23)=W0 at *
 generalize hBe:w.heap.size=B0 at hbk ⊢
 have HBE:=Lib.hid (show w.heap.size≤B0 by omega)
 clear hBe
 refine (HF _).mono ?_
 rintro e w1 ⟨g,rfl,h1⟩
 have hB1:=bthen hba h1.below
 have hbk1:=(h1.below.block _ (zas hbk)).trans hbk
 have hgB:B0<g:=Nat.lt_of_lt_of_le (zas hbk) h1.ge
 clear HF hba hbk
 have c9:=h1.c 9 (.bool f.fraction) rfl
 rw [hfr] at c9
 have c4:=h1.c 4 (.string f.m) rfl
 have c8:=h1.c 8 (.string f.den) rfl
 have H1:=Lib.hid h1
 have HFR:=Lib.hid hfr
 clear h1 hfr
 go_wp2_with fail
 go_quiet ((first|(go_at_call 113; exact Calls.quiet_of_same (HM _))|(go_at_call 113; exact Calls.quiet_of_same (HD _))))
 generalize hqd:w1.drewN _=w2
 have hbd:Below w1.heap.size w1 w2:=by subst hqd; exact zai _ _
 have h2:FSt W0 w2 g s f:=by subst hqd; exact H1.out.drewN _
 have hB2:=bthen hB1 hbd
 have hbk2:=(hbd.block _ (zas hbk1)).trans hbk1
 clear hqd hbd hB1 hbk1 HM HD H1 c4 c8 c9
 subst hB
 have hz:=t0_eq
 have c10:=h2.c 10 (.int .i64 f.slash) rfl
 generalize hA:f.slash=a at c10
 have HA:=Lib.hid hA
 clear hA h2
 go_wp2_with fail
 have cB0:=(zaf hbk2 0).trans (show _=some (Value.string ⟨#[]⟩) from rfl)
 have cB1:=(zaf hbk2 1).trans (show _=some (Value.string ⟨#[]⟩) from rfl)
 have fB0:=zad hbk2 0
 have fB1:=zad hbk2 1
 have hs1:=zav hbk2 0 (.string ⟨#[]⟩)
 have hs2:=zav hs1 1 (.string ⟨#[]⟩)
 have HS2:=Lib.hid (hs2.trans (show _=some (Obj.cells #[.string ⟨#[]⟩,.string ⟨#[]⟩] 23 (0,0)) from rfl))
 have HBF:=Lib.hid (zag (zag (g:=B0) (j:=0) (v:=.string ⟨#[]⟩) hB2 HBE.out) (j:=1) (v:=.string ⟨#[]⟩) (g:=B0) HBE.out)
 clear hs1 hs2 hbk2
 go_wp2_with fail
 go_region
 all_goals go_wp2
 all_goals refine bodyPost_ret (zaw rfl _ _ B0 23 #[.string ⟨#[]⟩,.string ⟨#[]⟩] (0,0) _ rfl (show _=some (Obj.cells #[.string ⟨#[]⟩,.string ⟨#[]⟩] 23 (0,0)) from HS2.out) Tryz.underlying23 rfl (by kernel_rfl)) rfl ?_
 all_goals exact ⟨by rw [HA.out]; rfl,bthen HBF.out (zac _)⟩
theorem parse_large (s:ByteArray) (w:World) (hs:s.size≤65536) (f:Fm) (hf:formF s=f) (hg:Gd s f) (he:f.end_ s=true) (hfr:f.fraction=true) (hB:dval f.den.data.toList≠0) (hl:600<(T (dval f.m.data.toList)).size∨600<(T (dval f.den.data.toList)).size) :
  Calls Tryz.prog 45 #[.string s] w fun e w'=>e = .returned (.tuple #[.agg #[.string ((⟨#[]⟩,⟨#[]⟩,7,0):ByteArray×ByteArray×Int×Int).1,.string ((⟨#[]⟩,⟨#[]⟩,7,0):ByteArray×ByteArray×Int×Int).2.1],.int .i64 ((⟨#[]⟩,⟨#[]⟩,7,0):ByteArray×ByteArray×Int×Int).2.2.1,.int .i64 ((⟨#[]⟩,⟨#[]⟩,7,0):ByteArray×ByteArray×Int×Int).2.2.2])∧Below w.heap.size w w':=by
 have hba:=zaa (Below.refl w.heap.size w) (.cells #[.string ⟨#[]⟩,.string ⟨#[]⟩] 23)
 have hbk:=zau w (.cells #[.string ⟨#[]⟩,.string ⟨#[]⟩] 23)
 have HF:∀ W,Calls Tryz.prog 112 #[.string s] W fun e w'=>∃ g,e = .returned (.tuple #[.pointer (some ⟨g,0,none⟩),.bool (f.end_ s)])∧FSt W w' g s f:=fun W=>by
  subst hf
  exact zby s W hs
 have hsI:¬ (65536:Int)<(s.size:Int):=by omega
 rw [he] at HF
 have HM:=fun W=>(zaJ f.m W hg.m).mono (fun e w' ⟨h1,h2⟩=>(⟨h1,h2.symm⟩:_∧w'=W))
 have HD:=fun W=>(zaJ f.den W hg.d).mono (fun e w' ⟨h1,h2⟩=>(⟨h1,h2.symm⟩:_∧w'=W))
 clear hf he hg
 generalize dval f.m.data.toList=A at *
 generalize dval f.den.data.toList=B at *
 go_enter Tryz.func45,Tryz.ntmps45
 go_wp2_with fail
 generalize w.alloc (.cells #[.string ⟨#[]⟩,.string ⟨#[]⟩] 23)=W0 at *
 generalize hBe:w.heap.size=B0 at hbk ⊢
 have HBE:=Lib.hid (show w.heap.size≤B0 by omega)
 clear hBe
 refine (HF _).mono ?_
 rintro e w1 ⟨g,rfl,h1⟩
 have hB1:=bthen hba h1.below
 have hbk1:=(h1.below.block _ (zas hbk)).trans hbk
 have hgB:B0<g:=Nat.lt_of_lt_of_le (zas hbk) h1.ge
 clear HF hba hbk
 have c9:=h1.c 9 (.bool f.fraction) rfl
 rw [hfr] at c9
 have c4:=h1.c 4 (.string f.m) rfl
 have c8:=h1.c 8 (.string f.den) rfl
 have H1:=Lib.hid h1
 have HFR:=Lib.hid hfr
 clear h1 hfr
 go_wp2_with fail
 go_quiet ((first|(go_at_call 113; exact Calls.quiet_of_same (HM _))|(go_at_call 113; exact Calls.quiet_of_same (HD _))))
 generalize hqd:w1.drewN _=w2
 have hbd:Below w1.heap.size w1 w2:=by subst hqd; exact zai _ _
 have h2:FSt W0 w2 g s f:=by subst hqd; exact H1.out.drewN _
 have hB2:=bthen hB1 hbd
 have hbk2:=(hbd.block _ (zas hbk1)).trans hbk1
 clear hqd hbd hB1 hbk1 HM HD H1 c4 c8 c9
 have hz:=t0_ne hB
 clear h2
 by_cases h6:600<(T A).size
 ·have h6I:(600:Int)<((T A).size:Int):=by omega
  have cB0:=(zaf hbk2 0).trans (show _=some (Value.string ⟨#[]⟩) from rfl)
  have cB1:=(zaf hbk2 1).trans (show _=some (Value.string ⟨#[]⟩) from rfl)
  have fB0:=zad hbk2 0
  have fB1:=zad hbk2 1
  have hs1:=zav hbk2 0 (.string ⟨#[]⟩)
  have hs2:=zav hs1 1 (.string ⟨#[]⟩)
  have HS2:=Lib.hid (hs2.trans (show _=some (Obj.cells #[.string ⟨#[]⟩,.string ⟨#[]⟩] 23 (0,0)) from rfl))
  have HBF:=Lib.hid (zag (zag (g:=B0) (j:=0) (v:=.string ⟨#[]⟩) hB2 HBE.out) (j:=1) (v:=.string ⟨#[]⟩) (g:=B0) HBE.out)
  clear hs1 hs2 hbk2
  go_wp2
  refine bodyPost_ret (zaw rfl _ _ B0 23 #[.string ⟨#[]⟩,.string ⟨#[]⟩] (0,0) _ rfl HS2.out Tryz.underlying23 rfl (by kernel_rfl)) rfl ?_
  exact ⟨rfl,HBF.out⟩
 ·have h6I:¬ (600:Int)<((T A).size:Int):=by omega
  have h7I:(600:Int)<((T B).size:Int):=by omega
  have cB0:=(zaf hbk2 0).trans (show _=some (Value.string ⟨#[]⟩) from rfl)
  have cB1:=(zaf hbk2 1).trans (show _=some (Value.string ⟨#[]⟩) from rfl)
  have fB0:=zad hbk2 0
  have fB1:=zad hbk2 1
  have hs1:=zav hbk2 0 (.string ⟨#[]⟩)
  have hs2:=zav hs1 1 (.string ⟨#[]⟩)
  have HS2:=Lib.hid (hs2.trans (show _=some (Obj.cells #[.string ⟨#[]⟩,.string ⟨#[]⟩] 23 (0,0)) from rfl))
  have HBF:=Lib.hid (zag (zag (g:=B0) (j:=0) (v:=.string ⟨#[]⟩) hB2 HBE.out) (j:=1) (v:=.string ⟨#[]⟩) (g:=B0) HBE.out)
  clear hs1 hs2 hbk2
  go_wp2
  refine bodyPost_ret (zaw rfl _ _ B0 23 #[.string ⟨#[]⟩,.string ⟨#[]⟩] (0,0) _ rfl HS2.out Tryz.underlying23 rfl (by kernel_rfl)) rfl ?_
  exact ⟨rfl,HBF.out⟩
theorem parse_frac (s:ByteArray) (w:World) (hs:s.size≤65536) (f:Fm) (hf:formF s=f) (hg:Gd s f) (he:f.end_ s=true) (hfr:f.fraction=true) (hB:dval f.den.data.toList≠0) (hl:¬ (600<(T (dval f.m.data.toList)).size∨600<(T (dval f.den.data.toList)).size)) :
  Calls Tryz.prog 45 #[.string s] w fun e w'=>e = .returned (.tuple #[.agg #[.string ((toldR (signed f (Rat.divInt (dval f.m.data.toList) (dval f.den.data.toList)))).1,(toldR (signed f (Rat.divInt (dval f.m.data.toList) (dval f.den.data.toList)))).2.1,(toldR (signed f (Rat.divInt (dval f.m.data.toList) (dval f.den.data.toList)))).2.2,(0:Int)).1,.string ((toldR (signed f (Rat.divInt (dval f.m.data.toList) (dval f.den.data.toList)))).1,(toldR (signed f (Rat.divInt (dval f.m.data.toList) (dval f.den.data.toList)))).2.1,(toldR (signed f (Rat.divInt (dval f.m.data.toList) (dval f.den.data.toList)))).2.2,(0:Int)).2.1],.int .i64 ((toldR (signed f (Rat.divInt (dval f.m.data.toList) (dval f.den.data.toList)))).1,(toldR (signed f (Rat.divInt (dval f.m.data.toList) (dval f.den.data.toList)))).2.1,(toldR (signed f (Rat.divInt (dval f.m.data.toList) (dval f.den.data.toList)))).2.2,(0:Int)).2.2.1,.int .i64 ((toldR (signed f (Rat.divInt (dval f.m.data.toList) (dval f.den.data.toList)))).1,(toldR (signed f (Rat.divInt (dval f.m.data.toList) (dval f.den.data.toList)))).2.1,(toldR (signed f (Rat.divInt (dval f.m.data.toList) (dval f.den.data.toList)))).2.2,(0:Int)).2.2.2])∧Below w.heap.size w w':=by
 have hba:=zaa (Below.refl w.heap.size w) (.cells #[.string ⟨#[]⟩,.string ⟨#[]⟩] 23)
 have hbk:=zau w (.cells #[.string ⟨#[]⟩,.string ⟨#[]⟩] 23)
 have HF:∀ W,Calls Tryz.prog 112 #[.string s] W fun e w'=>∃ g,e = .returned (.tuple #[.pointer (some ⟨g,0,none⟩),.bool (f.end_ s)])∧FSt W w' g s f:=fun W=>by
  subst hf
  exact zby s W hs
 have hsI:¬ (65536:Int)<(s.size:Int):=by omega
 rw [he] at HF
 have HM:=fun W=>(zaJ f.m W hg.m).mono (fun e w' ⟨h1,h2⟩=>(⟨h1,h2.symm⟩:_∧w'=W))
 have HD:=fun W=>(zaJ f.den W hg.d).mono (fun e w' ⟨h1,h2⟩=>(⟨h1,h2.symm⟩:_∧w'=W))
 clear hf he hg
 generalize dval f.m.data.toList=A at *
 generalize dval f.den.data.toList=B at *
 go_enter Tryz.func45,Tryz.ntmps45
 go_wp2_with fail
 generalize w.alloc (.cells #[.string ⟨#[]⟩,.string ⟨#[]⟩] 23)=W0 at *
 generalize hBe:w.heap.size=B0 at hbk ⊢
 have HBE:=Lib.hid (show w.heap.size≤B0 by omega)
 clear hBe
 refine (HF _).mono ?_
 rintro e w1 ⟨g,rfl,h1⟩
 have hB1:=bthen hba h1.below
 have hbk1:=(h1.below.block _ (zas hbk)).trans hbk
 have hgB:B0<g:=Nat.lt_of_lt_of_le (zas hbk) h1.ge
 clear HF hba hbk
 have c9:=h1.c 9 (.bool f.fraction) rfl
 rw [hfr] at c9
 have c4:=h1.c 4 (.string f.m) rfl
 have c8:=h1.c 8 (.string f.den) rfl
 have H1:=Lib.hid h1
 have HFR:=Lib.hid hfr
 clear h1 hfr
 go_wp2_with fail
 go_quiet ((first|(go_at_call 113; exact Calls.quiet_of_same (HM _))|(go_at_call 113; exact Calls.quiet_of_same (HD _))))
 generalize hqd:w1.drewN _=w2
 have hbd:Below w1.heap.size w1 w2:=by subst hqd; exact zai _ _
 have h2:FSt W0 w2 g s f:=by subst hqd; exact H1.out.drewN _
 have hB2:=bthen hB1 hbd
 have hbk2:=(hbd.block _ (zas hbk1)).trans hbk1
 clear hqd hbd hB1 hbk1 HM HD H1 c4 c8 c9
 have hz:=t0_ne hB
 have h6:(T A).size≤600:=by omega
 have h7:(T B).size≤600:=by omega
 have h6I:¬ (600:Int)<((T A).size:Int):=by omega
 have h7I:¬ (600:Int)<((T B).size:Int):=by omega
 have HBA:=Lib.hid (bd600 ((zaB (by decide)).1 h6))
 have HBB:=Lib.hid (bd600 ((zaB (by decide)).1 h7))
 have hu105:=Tryz.underlying70
 have hu112:=Tryz.underlying83
 have hnew:=RatAt.new w2 83 (by decide)
 have hbz:=zaa (Below.refl w2.heap.size w2) (.cells #[.bool false,.slice none 0 0,.bool false,.slice none 0 0] 83)
 have hgl:=zas h2.blk
 have hBz:B0<w2.heap.size:=zas hbk2
 have hwz:w.heap.size≤w2.heap.size:=hB2.size
 clear hl
 go_wp2_with fail
 refine (zbb A _ (show _≤_ by omega)).mono ?_
 rintro e w3 ⟨D,rfl,hD,ha3,hb3⟩
 go_wp2_with fail
 refine (zbb B _ (show _≤_ by omega)).mono ?_
 rintro e w4 ⟨D2,rfl,hD2,hb4n,hb4⟩
 have hsz:=hbz.size
 have hsz3:=hb3.size
 have hl3:=ha3.lt
 go_wp2_with fail
 refine (zbc w2.heap.size D 0 D2 0 (A:Int) (B:Int) _ ((hnew.slot.below hb3).below hb4) (ha3.below hb4) hb4n (by omega) HBA.out HBB.out (by unfold big; omega)).mono ?_
 rintro e w5 ⟨rfl,hx5,hu5⟩
 have hbq:=bthen hbz (bthen hb3 hb4)
 have hB5:=hu5.new (bthen hB2 hbq) hwz
 have hbk5:=(hu5.other _ (zas ((hbq.block _ (zas hbk2)).trans hbk2)) (by omega)).trans ((hbq.block _ (zas hbk2)).trans hbk2)
 have hbg:=(hu5.other _ (zas ((hbq.block _ (zas h2.blk)).trans h2.blk)) (by omega)).trans ((hbq.block _ (zas h2.blk)).trans h2.blk)
 have c3:=(zaf hbg 3).trans (show _=some (Value.bool f.neg) from rfl)
 have HBX:=Lib.hid (Bdr.divInt (show (B:Int)≠0 by omega) HBA.out HBB.out)
 have HZ:=Lib.hid hwz
 have HZB:=Lib.hid hBz
 clear hnew hbz h2 ha3 hb3 hb4n hb4 hu5 hbq hbg hB2 hbk2
 cases hng:f.neg
 ·rw [hng] at c3
  have HV:=Lib.hid (show signed f (Rat.divInt (A:Int) (B:Int))=Rat.divInt (A:Int) (B:Int) by unfold signed; rw [hng]; rfl)
  clear hng
  go_wp2_with fail
  refine (zct w2.heap.size (Rat.divInt (A:Int) (B:Int)) _ hx5 HBX.out (by unfold big; omega)).mono ?_
  rintro e wt ⟨rfl,hbt⟩
  have hBt:=bthen hB5 hbt
  have hbkt:=(hbt.block _ (zas hbk5)).trans hbk5
  clear hx5 hB5 hbk5 hbt
  clear c3
  generalize htt:toldR (Rat.divInt (A:Int) (B:Int))=tt
  have HTT:=Lib.hid (show toldR (signed f (Rat.divInt (A:Int) (B:Int)))=tt by rw [HV.out]; exact htt)
  clear htt HV
  have hbr:=zaa (Below.refl wt.heap.size wt) (.cells #[.string tt.1,.string tt.2.1] 23)
  have hBr:=bthen hBt hbr
  have hbkr:=(hbr.block _ (zas hbkt)).trans hbkt
  have hkr:=zau wt (.cells #[.string tt.1,.string tt.2.1] 23)
  have hne:wt.heap.size≠B0:=by have:=zas hbkt; omega
  clear hBt hbkt hbr hkr hne
  have cB0:=(zaf hbkr 0).trans (show _=some (Value.string ⟨#[]⟩) from rfl)
  have cB1:=(zaf hbkr 1).trans (show _=some (Value.string ⟨#[]⟩) from rfl)
  have fB0:=zad hbkr 0
  have fB1:=zad hbkr 1
  have hs1:=zav hbkr 0 (.string tt.1)
  have hs2:=zav hs1 1 (.string tt.2.1)
  have HS2:=Lib.hid (hs2.trans (show _=some (Obj.cells #[.string tt.1,.string tt.2.1] 23 (0,0)) from rfl))
  have HBF:=Lib.hid (zag (zag (g:=B0) (j:=0) (v:=.string tt.1) hBr HBE.out) (j:=1) (v:=.string tt.2.1) (g:=B0) HBE.out)
  clear hs1 hs2 hbkr
  go_wp2
  refine bodyPost_ret (zaw rfl _ _ B0 23 #[.string tt.1,.string tt.2.1] (0,0) _ rfl HS2.out Tryz.underlying23 rfl (by kernel_rfl)) rfl ?_
  exact ⟨by rw [HTT.out]; rfl,HBF.out⟩
 ·rw [hng] at c3
  have HV:=Lib.hid (show signed f (Rat.divInt (A:Int) (B:Int)) = -(Rat.divInt (A:Int) (B:Int)) by unfold signed; rw [hng]; rfl)
  clear hng
  go_wp2_with fail
  refine (rneg_calls w2.heap.size w2.heap.size (Rat.divInt (A:Int) (B:Int)) _ hx5.slot hx5 HBX.out (by unfold big; omega)).mono ?_
  rintro e wn ⟨rfl,hxn,hun⟩
  have hBn:=hun.new hB5 HZ.out
  have hbkn:=(hun.other _ (zas hbk5) (by have:=HZB.out; omega)).trans hbk5
  have hbn:=Lib.hid (HBX.out.neg)
  clear hx5 hB5 hbk5 hun c3
  go_wp2_with fail
  refine (zct w2.heap.size (-(Rat.divInt (A:Int) (B:Int))) _ hxn hbn.out (by unfold big; omega)).mono ?_
  rintro e wt ⟨rfl,hbt⟩
  have hBt:=bthen hBn hbt
  have hbkt:=(hbt.block _ (zas hbkn)).trans hbkn
  clear hxn hBn hbkn hbt
  generalize htt:toldR (-(Rat.divInt (A:Int) (B:Int)))=tt
  have HTT:=Lib.hid (show toldR (signed f (Rat.divInt (A:Int) (B:Int)))=tt by rw [HV.out]; exact htt)
  clear htt HV
  have hbr:=zaa (Below.refl wt.heap.size wt) (.cells #[.string tt.1,.string tt.2.1] 23)
  have hBr:=bthen hBt hbr
  have hbkr:=(hbr.block _ (zas hbkt)).trans hbkt
  have hkr:=zau wt (.cells #[.string tt.1,.string tt.2.1] 23)
  have hne:wt.heap.size≠B0:=by have:=zas hbkt; omega
  clear hBt hbkt hbr hkr hne
  have cB0:=(zaf hbkr 0).trans (show _=some (Value.string ⟨#[]⟩) from rfl)
  have cB1:=(zaf hbkr 1).trans (show _=some (Value.string ⟨#[]⟩) from rfl)
  have fB0:=zad hbkr 0
  have fB1:=zad hbkr 1
  have hs1:=zav hbkr 0 (.string tt.1)
  have hs2:=zav hs1 1 (.string tt.2.1)
  have HS2:=Lib.hid (hs2.trans (show _=some (Obj.cells #[.string tt.1,.string tt.2.1] 23 (0,0)) from rfl))
  have HBF:=Lib.hid (zag (zag (g:=B0) (j:=0) (v:=.string tt.1) hBr HBE.out) (j:=1) (v:=.string tt.2.1) (g:=B0) HBE.out)
  clear hs1 hs2 hbkr
  go_wp2
  refine bodyPost_ret (zaw rfl _ _ B0 23 #[.string tt.1,.string tt.2.1] (0,0) _ rfl HS2.out Tryz.underlying23 rfl (by kernel_rfl)) rfl ?_
  exact ⟨by rw [HTT.out]; rfl,HBF.out⟩
theorem parse_dlarge (s:ByteArray) (w:World) (hs:s.size≤65536) (f:Fm) (hf:formF s=f) (hg:Gd s f) (he:f.end_ s=true) (hfr:f.fraction=false) (hd:decF f=none) :
  Calls Tryz.prog 45 #[.string s] w fun e w'=>e = .returned (.tuple #[.agg #[.string ((⟨#[]⟩,⟨#[]⟩,7,0):ByteArray×ByteArray×Int×Int).1,.string ((⟨#[]⟩,⟨#[]⟩,7,0):ByteArray×ByteArray×Int×Int).2.1],.int .i64 ((⟨#[]⟩,⟨#[]⟩,7,0):ByteArray×ByteArray×Int×Int).2.2.1,.int .i64 ((⟨#[]⟩,⟨#[]⟩,7,0):ByteArray×ByteArray×Int×Int).2.2.2])∧Below w.heap.size w w':=by
 have hba:=zaa (Below.refl w.heap.size w) (.cells #[.string ⟨#[]⟩,.string ⟨#[]⟩] 23)
 have hbk:=zau w (.cells #[.string ⟨#[]⟩,.string ⟨#[]⟩] 23)
 have HF:∀ W,Calls Tryz.prog 112 #[.string s] W fun e w'=>∃ g,e = .returned (.tuple #[.pointer (some ⟨g,0,none⟩),.bool (f.end_ s)])∧FSt W w' g s f:=fun W=>by
  subst hf
  exact zby s W hs
 have hsI:¬ (65536:Int)<(s.size:Int):=by omega
 rw [he] at HF
 have HDC:=fun (W W':World) (g:Nat) (h:FSt W W' g s f)=>zcW W W' g s f h hg.m (by have:=hg.mz; omega) hg.x (by have:=hg.xz; omega) (by have:=hg.bh; omega)
 clear hf he hg
 go_enter Tryz.func45,Tryz.ntmps45
 go_wp2_with fail
 generalize w.alloc (.cells #[.string ⟨#[]⟩,.string ⟨#[]⟩] 23)=W0 at *
 generalize hBe:w.heap.size=B0 at hbk ⊢
 have HBE:=Lib.hid (show w.heap.size≤B0 by omega)
 clear hBe
 refine (HF _).mono ?_
 rintro e w1 ⟨g,rfl,h1⟩
 have hB1:=bthen hba h1.below
 have hbk1:=(h1.below.block _ (zas hbk)).trans hbk
 have hgB:B0<g:=Nat.lt_of_lt_of_le (zas hbk) h1.ge
 clear HF hba hbk
 have c9:=h1.c 9 (.bool f.fraction) rfl
 rw [hfr] at c9
 have c3a:=h1.c 3 (.bool f.neg) rfl
 have HDC1:=Lib.hid (HDC _ _ _ h1)
 have hgl:=zas h1.blk
 have hbg:=h1.blk
 clear h1 hfr HDC
 go_wp2_with fail
 refine HDC1.out.mono ?_
 rw [hd]
 rintro e w2 ⟨rfl,hb2⟩
 have hB2:=bthen hB1 hb2
 have hbk2:=(hb2.block _ (zas hbk1)).trans hbk1
 clear hB1 hbk1 hb2 hbg c3a c9 HDC1
 have cB0:=(zaf hbk2 0).trans (show _=some (Value.string ⟨#[]⟩) from rfl)
 have cB1:=(zaf hbk2 1).trans (show _=some (Value.string ⟨#[]⟩) from rfl)
 have fB0:=zad hbk2 0
 have fB1:=zad hbk2 1
 have hs1:=zav hbk2 0 (.string ⟨#[]⟩)
 have hs2:=zav hs1 1 (.string ⟨#[]⟩)
 have HS2:=Lib.hid (hs2.trans (show _=some (Obj.cells #[.string ⟨#[]⟩,.string ⟨#[]⟩] 23 (0,0)) from rfl))
 have HBF:=Lib.hid (zag (zag (g:=B0) (j:=0) (v:=.string ⟨#[]⟩) hB2 HBE.out) (j:=1) (v:=.string ⟨#[]⟩) (g:=B0) HBE.out)
 clear hs1 hs2 hbk2
 go_wp2
 refine bodyPost_ret (zaw rfl _ _ B0 23 #[.string ⟨#[]⟩,.string ⟨#[]⟩] (0,0) _ rfl HS2.out Tryz.underlying23 rfl (by kernel_rfl)) rfl ?_
 exact ⟨rfl,HBF.out⟩
theorem parse_dec (s:ByteArray) (w:World) (hs:s.size≤65536) (f:Fm) (hf:formF s=f) (hg:Gd s f) (he:f.end_ s=true) (hfr:f.fraction=false) (x:Rat) (hd:decF f=some x) :
  Calls Tryz.prog 45 #[.string s] w fun e w'=>e = .returned (.tuple #[.agg #[.string ((toldR (signed f x)).1,(toldR (signed f x)).2.1,(toldR (signed f x)).2.2,(0:Int)).1,.string ((toldR (signed f x)).1,(toldR (signed f x)).2.1,(toldR (signed f x)).2.2,(0:Int)).2.1],.int .i64 ((toldR (signed f x)).1,(toldR (signed f x)).2.1,(toldR (signed f x)).2.2,(0:Int)).2.2.1,.int .i64 ((toldR (signed f x)).1,(toldR (signed f x)).2.1,(toldR (signed f x)).2.2,(0:Int)).2.2.2])∧Below w.heap.size w w':=by
 have hba:=zaa (Below.refl w.heap.size w) (.cells #[.string ⟨#[]⟩,.string ⟨#[]⟩] 23)
 have hbk:=zau w (.cells #[.string ⟨#[]⟩,.string ⟨#[]⟩] 23)
 have HF:∀ W,Calls Tryz.prog 112 #[.string s] W fun e w'=>∃ g,e = .returned (.tuple #[.pointer (some ⟨g,0,none⟩),.bool (f.end_ s)])∧FSt W w' g s f:=fun W=>by
  subst hf
  exact zby s W hs
 have hsI:¬ (65536:Int)<(s.size:Int):=by omega
 rw [he] at HF
 have HDC:=fun (W W':World) (g:Nat) (h:FSt W W' g s f)=>zcW W W' g s f h hg.m (by have:=hg.mz; omega) hg.x (by have:=hg.xz; omega) (by have:=hg.bh; omega)
 clear hf he hg
 go_enter Tryz.func45,Tryz.ntmps45
 go_wp2_with fail
 generalize w.alloc (.cells #[.string ⟨#[]⟩,.string ⟨#[]⟩] 23)=W0 at *
 generalize hBe:w.heap.size=B0 at hbk ⊢
 have HBE:=Lib.hid (show w.heap.size≤B0 by omega)
 clear hBe
 refine (HF _).mono ?_
 rintro e w1 ⟨g,rfl,h1⟩
 have hB1:=bthen hba h1.below
 have hbk1:=(h1.below.block _ (zas hbk)).trans hbk
 have hgB:B0<g:=Nat.lt_of_lt_of_le (zas hbk) h1.ge
 clear HF hba hbk
 have c9:=h1.c 9 (.bool f.fraction) rfl
 rw [hfr] at c9
 have c3a:=h1.c 3 (.bool f.neg) rfl
 have HDC1:=Lib.hid (HDC _ _ _ h1)
 have hgl:=zas h1.blk
 have hbg:=h1.blk
 clear h1 hfr HDC
 go_wp2_with fail
 refine HDC1.out.mono ?_
 rw [hd]
 rintro e w2 ⟨z,rfl,hz,hx2,hbd,hb2⟩
 have hB2:=bthen hB1 hb2
 have hbk2:=(hb2.block _ (zas hbk1)).trans hbk1
 have c3:=(zaf ((hb2.block _ hgl).trans hbg) 3).trans (show _=some (Value.bool f.neg) from rfl)
 have hB1s:=hB1.size
 have HBX:=Lib.hid hbd
 have HZ:=Lib.hid (show w.heap.size≤z by omega)
 have HZB:=Lib.hid (show B0<z by have:=zas hbk1; omega)
 have hu112:=Tryz.underlying83
 clear hB1 hbk1 hb2 hbg c3a c9 HDC1 hbd hB1s hd
 cases hng:f.neg
 ·rw [hng] at c3
  have HV:=Lib.hid (show signed f (x)=x by unfold signed; rw [hng]; rfl)
  clear hng
  go_wp2_with fail
  refine (zct z (x) _ hx2 HBX.out (by unfold big; omega)).mono ?_
  rintro e wt ⟨rfl,hbt⟩
  have hBt:=bthen hB2 hbt
  have hbkt:=(hbt.block _ (zas hbk2)).trans hbk2
  clear hx2 hB2 hbk2 hbt
  clear c3
  generalize htt:toldR (x)=tt
  have HTT:=Lib.hid (show toldR (signed f (x))=tt by rw [HV.out]; exact htt)
  clear htt HV
  have hbr:=zaa (Below.refl wt.heap.size wt) (.cells #[.string tt.1,.string tt.2.1] 23)
  have hBr:=bthen hBt hbr
  have hbkr:=(hbr.block _ (zas hbkt)).trans hbkt
  have hkr:=zau wt (.cells #[.string tt.1,.string tt.2.1] 23)
  have hne:wt.heap.size≠B0:=by have:=zas hbkt; omega
  clear hBt hbkt hbr hkr hne
  have cB0:=(zaf hbkr 0).trans (show _=some (Value.string ⟨#[]⟩) from rfl)
  have cB1:=(zaf hbkr 1).trans (show _=some (Value.string ⟨#[]⟩) from rfl)
  have fB0:=zad hbkr 0
  have fB1:=zad hbkr 1
  have hs1:=zav hbkr 0 (.string tt.1)
  have hs2:=zav hs1 1 (.string tt.2.1)
  have HS2:=Lib.hid (hs2.trans (show _=some (Obj.cells #[.string tt.1,.string tt.2.1] 23 (0,0)) from rfl))
  have HBF:=Lib.hid (zag (zag (g:=B0) (j:=0) (v:=.string tt.1) hBr HBE.out) (j:=1) (v:=.string tt.2.1) (g:=B0) HBE.out)
  clear hs1 hs2 hbkr
  go_wp2
  refine bodyPost_ret (zaw rfl _ _ B0 23 #[.string tt.1,.string tt.2.1] (0,0) _ rfl HS2.out Tryz.underlying23 rfl (by kernel_rfl)) rfl ?_
  exact ⟨by rw [HTT.out]; rfl,HBF.out⟩
 ·rw [hng] at c3
  have HV:=Lib.hid (show signed f (x) = -(x) by unfold signed; rw [hng]; rfl)
  clear hng
  go_wp2_with fail
  refine (rneg_calls z z (x) _ hx2.slot hx2 HBX.out (by unfold big; omega)).mono ?_
  rintro e wn ⟨rfl,hxn,hun⟩
  have hBn:=hun.new hB2 HZ.out
  have hbkn:=(hun.other _ (zas hbk2) (by have:=HZB.out; omega)).trans hbk2
  have hbn:=Lib.hid (HBX.out.neg)
  clear hx2 hB2 hbk2 hun c3
  go_wp2_with fail
  refine (zct z (-(x)) _ hxn hbn.out (by unfold big; omega)).mono ?_
  rintro e wt ⟨rfl,hbt⟩
  have hBt:=bthen hBn hbt
  have hbkt:=(hbt.block _ (zas hbkn)).trans hbkn
  clear hxn hBn hbkn hbt
  generalize htt:toldR (-(x))=tt
  have HTT:=Lib.hid (show toldR (signed f (x))=tt by rw [HV.out]; exact htt)
  clear htt HV
  have hbr:=zaa (Below.refl wt.heap.size wt) (.cells #[.string tt.1,.string tt.2.1] 23)
  have hBr:=bthen hBt hbr
  have hbkr:=(hbr.block _ (zas hbkt)).trans hbkt
  have hkr:=zau wt (.cells #[.string tt.1,.string tt.2.1] 23)
  have hne:wt.heap.size≠B0:=by have:=zas hbkt; omega
  clear hBt hbkt hbr hkr hne
  have cB0:=(zaf hbkr 0).trans (show _=some (Value.string ⟨#[]⟩) from rfl)
  have cB1:=(zaf hbkr 1).trans (show _=some (Value.string ⟨#[]⟩) from rfl)
  have fB0:=zad hbkr 0
  have fB1:=zad hbkr 1
  have hs1:=zav hbkr 0 (.string tt.1)
  have hs2:=zav hs1 1 (.string tt.2.1)
  have HS2:=Lib.hid (hs2.trans (show _=some (Obj.cells #[.string tt.1,.string tt.2.1] 23 (0,0)) from rfl))
  have HBF:=Lib.hid (zag (zag (g:=B0) (j:=0) (v:=.string tt.1) hBr HBE.out) (j:=1) (v:=.string tt.2.1) (g:=B0) HBE.out)
  clear hs1 hs2 hbkr
  go_wp2
  refine bodyPost_ret (zaw rfl _ _ B0 23 #[.string tt.1,.string tt.2.1] (0,0) _ rfl HS2.out Tryz.underlying23 rfl (by kernel_rfl)) rfl ?_
  exact ⟨by rw [HTT.out]; rfl,HBF.out⟩
noncomputable def rat_Parse.f (a0:ByteArray):Option (ByteArray×ByteArray×Int×Int):=some (parseF a0)
theorem parse_walk (s:ByteArray) (w:World) :
  Calls Tryz.prog 45 #[.string s] w fun e w'=>e = .returned (.tuple #[.agg #[.string (parseF s).1,.string (parseF s).2.1],.int .i64 (parseF s).2.2.1,.int .i64 (parseF s).2.2.2])∧Below w.heap.size w w':=by
 by_cases hs:65536<s.size
 ·rw [show parseF s=_ from if_pos hs]; exact parse_size s w hs
 ·have hs':s.size≤65536:=by omega
  have hg:=formF_ok s
  obtain ⟨f,hf⟩:∃ f,formF s=f:=⟨_,rfl⟩
  rw [hf] at hg
  unfold parseF
  rw [if_neg hs,hf]
  cases he:f.end_ s
  ·rw [if_pos rfl]; exact parse_form s w hs' f hf he
  ·rw [if_neg (by decide)]
   cases hfr:f.fraction
   ·rw [if_neg (by decide)]
    cases hd:decF f with
    | none=>exact parse_dlarge s w hs' f hf hg he hfr hd
    | some x=>exact parse_dec s w hs' f hf hg he hfr x hd
   ·rw [if_pos rfl]
    by_cases hB:dval f.den.data.toList=0
    ·rw [if_pos hB]; exact parse_zero s w hs' f hf hg he hfr hB
    ·rw [if_neg hB]
     by_cases hl:600<(T (dval f.m.data.toList)).size∨600<(T (dval f.den.data.toList)).size
     ·rw [show fracF f=none from if_pos hl]; exact parse_large s w hs' f hf hg he hfr hB hl
     ·rw [show fracF f=some _ from if_neg hl]; exact parse_frac s w hs' f hf hg he hfr hB hl
theorem rat_Parse.calls (a0:ByteArray) (r1 r2:ByteArray) (r3 r4:Int) (w:World) (h:rat_Parse.f a0=some (r1,r2,r3,r4)) :
  Calls Tryz.prog 45 #[.string a0] w fun e w'=>e = .returned (.tuple #[.agg #[.string r1,.string r2],.int .i64 r3,.int .i64 r4])∧Below w.heap.size w w':=by
 have h:=Option.some.inj h
 have:=parse_walk a0 w
 rw [h] at this
 exact this
end Go.Proofs.ZQ
end
section
namespace Go.Proofs.ZQ
open Go.RowKit Go.Proofs.ZW.Wa Go.Proofs.ZW.Wb Go.Proofs.ZW.Wc
attribute [local go_sem] zaH zaF zaW zaV zaA zaz zaG zaE
theorem eqA23 (d:Nat) (w:World) (x0 y0:ByteArray) (x1 y1:ByteArray) :
  (Op.equalIn (d+2) 23 (.agg #[.string x0,.string x1]) (.agg #[.string y0,.string y1])).run Tryz.prog w = .ok (x0.toList == y0.toList && (x1.toList == y1.toList)) w:=by
 refine eqA_of Tryz.underlying23 (by kernel_rfl) ?_
 refine eqf_cons (by rfl) (by go_simp; rfl) (by go_simp; rfl) (by go_simp) ?_
 exact eqf_last (by rfl) (by go_simp; rfl) (by go_simp; rfl) (by go_simp)
end Go.Proofs.ZQ
end
section
namespace Go.Proofs.ZQ
open Go.RowKit Go.Proofs.ZW.Wa Go.Proofs.ZW.Wb Go.Proofs.ZW.Wc
attribute [local go_sem] zaH zaF zaW zaV zaA zaz zaG zaE
attribute [local go_sem high] eqA23
noncomputable def l2_awake.f  : Option (Bool):=(rat_Parse.f (⟨#[45,49,46,50,53,48,101,45,49]⟩:ByteArray)).bind fun bt285=>((rat_Digits.f (⟨#[50,50]⟩:ByteArray) (⟨#[55]⟩:ByteArray) 4).bind fun bt290=>(if bt285.2.2.1=0 then (if bt285.2.2.2=0 then (if (bt285.1.toList == ([45,49]:List UInt8) && (bt285.2.1.toList == ([56]:List UInt8)))=true then (if bt290.1.toList=([51,46,49,52,50,57]:List UInt8) then (some (bt290.2 == 0)) else (some false)) else (some false)) else (some false)) else (some false)))
end Go.Proofs.ZQ
end
section
namespace Go.Proofs.ZQ
open Go.RowKit Go.Proofs.ZW.Wa Go.Proofs.ZP
theorem zcK {n:Nat} (h:n<10^20):n<10^600:=Nat.lt_of_lt_of_le h (Nat.pow_le_pow_right (by decide) (by decide))
theorem small_size {n:Nat} (h:n<10^20):¬ 600<(T n).size:=Nat.not_lt.2 ((zaB (by decide)).2 (zcK h))
theorem T_lit (s:ByteArray) (n:Nat) (hd:dval s.data.toList=n) (h:ZP.Can s.data.toList):T n=s:=by
 subst hd; exact (can_T h).symm
theorem can_of {l:List UInt8} (h:(decide (0<l.length) && l.all (fun c=>decide (48≤c.toNat) && decide (c.toNat≤57)) && (decide (l.head? ≠ some 48) || decide (l.length=1)))=true):ZP.Can l:=by
 simp only [Bool.and_eq_true,Bool.or_eq_true,decide_eq_true_eq,List.all_eq_true] at h
 exact ⟨h.1.1,fun c hc=>h.1.2 c hc,fun e=>h.2.elim (fun k=>absurd e k) id⟩
theorem T8:T 8=⟨#[56]⟩:=T_lit _ _ rfl (can_of (by decide))
theorem T22:T 22=⟨#[50,50]⟩:=T_lit _ _ rfl (can_of (by decide))
theorem T7:T 7=⟨#[55]⟩:=T_lit _ _ rfl (can_of (by decide))
theorem T31429:T 31429=⟨#[51,49,52,50,57]⟩:=T_lit _ _ rfl (can_of (by decide))
def awS:ByteArray:=⟨#[45,49,46,50,53,48,101,45,49]⟩
def awF:Fm:=⟨9,false,true,⟨#[49,50,53,48]⟩,3,⟨#[49]⟩,true,⟨#[]⟩,false,0⟩
theorem aw_form:formF awS=awF:=by kernel_rfl
theorem aw_val:signed awF (((1250:Int):Rat)*tenR (-4))=Rat.divInt (-1) 8:=by kernel_rfl
theorem aw_dec:decF awF=some (((1250:Int):Rat)*tenR (-4)):=by
 have e1:expE awF=some (-1):=by kernel_rfl
 have e2:dval awF.m.data.toList=1250:=by kernel_rfl
 unfold decF
 rw [e1,e2,Option.bind_some]
 refine za1 ?_
 rintro (h|h|h)
 ·exact small_size (by decide) h
 ·exact absurd h.2 (by decide)
 ·exact absurd h.1 (by decide)
theorem aw_parse:rat_Parse.f ⟨#[45,49,46,50,53,48,101,45,49]⟩=some (⟨#[45,49]⟩,⟨#[56]⟩,0,0):=by
 have hn:(Rat.divInt (-1) 8).num = -1:=by decide
 have hd:(Rat.divInt (-1) 8).den=8:=by decide
 have ht:toldR (Rat.divInt (-1) 8)=(⟨#[45,49]⟩,⟨#[56]⟩,0):=by
  unfold toldR
  have hs:Sm (Rat.divInt (-1) 8):=by
   unfold Sm
   rw [hn,hd]
   exact ⟨zcK (by decide),zcK (by decide)⟩
  rw [if_pos hs,hn,hd,T8,wtext_neg (by decide)]
  show ((⟨#[45]⟩:ByteArray)++T 1,(⟨#[56]⟩:ByteArray),(0:Int))=_
  rw [T_one]; rfl
 show some (parseF awS)=_
 refine congrArg some ?_
 unfold parseF
 have h1:¬ 65536<awS.size:=by decide
 have h2:awF.end_ awS=true:=by kernel_rfl
 have h3:awF.fraction=false:=rfl
 rw [if_neg h1,aw_form,h2,if_neg (by decide),h3,if_neg (by decide),aw_dec]
 show ((toldR (signed awF _)).1,(toldR (signed awF _)).2.1,(toldR (signed awF _)).2.2,(0:Int))=_
 rw [aw_val,ht]
theorem aw_digits:rat_Digits.f ⟨#[50,50]⟩ ⟨#[55]⟩ 4=some (⟨#[51,46,49,52,50,57]⟩,0):=by
 have hn:(Rat.divInt 22 7).num=22:=by decide
 have hd:(Rat.divInt 22 7).den=7:=by decide
 have hr:RR ⟨#[50,50]⟩ ⟨#[55]⟩ (Rat.divInt 22 7):=by
  refine ⟨?_,?_,?_,?_⟩
  ·rw [hn,za5 (by decide)]; exact T22.symm
  ·rw [hd]; exact T7.symm
  ·rw [hn]; exact zcK (by decide)
  ·rw [hd]; exact zcK (by decide)
 have he:∃ x,RR ⟨#[50,50]⟩ ⟨#[55]⟩ x:=⟨_,hr⟩
 have ev:evenR (Rat.divInt 22 7*tenR 4)=31429:=by kernel_rfl
 unfold rat_Digits.f
 rw [dif_pos he,←RR.uniq hr he.choose_spec]
 unfold digR
 rw [if_neg (by decide),ev,if_neg (small_size (by decide))]
 refine congrArg some ?_
 have:dgt 31429 4=⟨#[51,46,49,52,50,57]⟩:=by
  unfold dgt
  rw [if_neg (by decide)]
  show ptT (padT (T 31429) 4) 4=_
  rw [T31429]; kernel_rfl
 show (dgt 31429 4,(0:Int))=_
 rw [this]
theorem awake_f:l2_awake.f=some true:=by
 unfold l2_awake.f
 rw [aw_parse,Option.bind_some,aw_digits,Option.bind_some]
 have e1:(((⟨#[45,49]⟩:ByteArray).toList == ([45,49]:List UInt8)) && ((⟨#[56]⟩:ByteArray).toList == ([56]:List UInt8)))=true:=by
  rw [ba_toList,ba_toList]; rfl
 have e2:(⟨#[51,46,49,52,50,57]⟩:ByteArray).toList=([51,46,49,52,50,57]:List UInt8):=by rw [ba_toList]
 rw [if_pos rfl,if_pos rfl,if_pos e1,if_pos e2]; rfl
end Go.Proofs.ZQ
end
