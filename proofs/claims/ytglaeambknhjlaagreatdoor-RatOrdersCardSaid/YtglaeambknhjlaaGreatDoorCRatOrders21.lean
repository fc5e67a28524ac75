/- Texts under the proof, joined by a program (prune.py): HDecimal, HFormOk, QRatParse. -/
import Derived.Test.YtglaeambknhjlaaGreatDoorCRatOrders20
import Derived.Test.YtglaeambknhjlaaGreatDoorCRatOrders07
import Derived.Test.YtglaeambknhjlaaGreatDoorCRatOrders09
import Derived.StillTailTactics
import Derived.RegionTactic
import Derived.ChangeAlike
set_option linter.unusedVariables false
set_option linter.unusedSimpArgs false
set_option exponentiation.threshold 20001
set_option maxHeartbeats 8000000
set_option maxRecDepth 100000
section
namespace Go.Proofs.ZP
open Go.RowKit Go.Proofs.ZW.Wa
def expE (f:Fm):Option Int:=if f.exp.size=0 then some 0 else if 4096<dval f.exp.data.toList then none else some (if f.minus then -(dval f.exp.data.toList:Int) else (dval f.exp.data.toList:Int))
def scaleF (M:Nat) (k:Int):Option Rat:=if 600<(T M).size∨(k<0∧600<1-k)∨(0≤k∧M≠0∧600<((T M).size:Int)+k) then none else some (((M:Int):Rat)*tenR k)
def decF (f:Fm):Option Rat:=(expE f).bind fun e=>scaleF (dval f.m.data.toList) (e-f.behind)
def DPost (w:World) (r:Option Rat) (e:Ending) (w':World):Prop:=match r with
 | none=>e = .returned (.tuple #[.pointer none,.bool false])∧Below w.heap.size w w'
 | some x=>∃ D,e = .returned (.tuple #[.pointer (some ⟨D,0,none⟩),.bool true])∧w.heap.size≤D∧RatAt w' D x∧Bdr 20000 x∧Below w.heap.size w w'
theorem DPost.no {w w':World} {r:Option Rat} (hr:r=none) (hb:Below w.heap.size w w'):DPost w r (.returned (.tuple #[.pointer none,.bool false])) w':=by
 subst hr; exact ⟨rfl,hb⟩
theorem DPost.yes {w w':World} {r:Option Rat} {x:Rat} {D:Nat} (hr:r=some x) (hD:w.heap.size≤D) (hx:RatAt w' D x) (hs:Bdr 20000 x) (hb:Below w.heap.size w w'):DPost w r (.returned (.tuple #[.pointer (some ⟨D,0,none⟩),.bool true])) w':=by
 subst hr; exact ⟨D,rfl,hD,hx,hs,hb⟩
theorem zce {M:Nat} {k:Int} (h:600<(T M).size∨(k<0∧600<1-k)∨(0≤k∧M≠0∧600<((T M).size:Int)+k)):scaleF M k=none:=if_pos h
theorem za9 {M:Nat} {k:Int} (h:¬ (600<(T M).size∨(k<0∧600<1-k)∨(0≤k∧M≠0∧600<((T M).size:Int)+k))):scaleF M k=some (((M:Int):Rat)*tenR k):=if_neg h
theorem t0_eq:((T 0).toList == ([48]:List UInt8))=true:=by rw [ZQ.ba_toList]; unfold T; rw [zbQ (by decide)]; rfl
theorem t0_ne {M:Nat} (h:M≠0):((T M).toList == ([48]:List UInt8))=false:=by
 rw [beq_eq_false_iff_ne,ZQ.ba_toList]
 intro e
 have h2:(T M).data.toList=(T 0).data.toList:=by rw [e]; unfold T; rw [zbQ (by decide)]; rfl
 exact h (T_inj ((zaA h2).trans (zaA rfl).symm))
theorem bs_nil {s:ByteArray} (h:s.size=0):s.toList=([]:List UInt8):=by
 rw [ZQ.ba_toList]; exact List.length_eq_zero_iff.1 (by rw [zat]; exact h)
theorem bs_ne {s:ByteArray} (h:s.size≠0):s.toList.isEmpty=false∧(s.toList == ([]:List UInt8))=false:=by
 have h2:s.toList ≠ []:=fun e=>h (by rw [ZQ.ba_toList] at e; rw [←zat,e]; rfl)
 exact ⟨by cases hh:s.toList with
  | nil=>exact absurd hh h2
  | cons a b=>rfl,beq_eq_false_iff_ne.2 h2⟩
theorem zcq {M:Nat} {k:Int} (h:(T M).size≤600) (hk : -600≤k) (hk2:k≤4096):Bdr 20000 (((M:Int):Rat)*tenR k):=by
 have h1:Bd 2000 ((M:Nat):Int):=bd600 ((zaz (by decide)).1 h)
 exact ((Bdr.int h1 (by decide)).mul (Bdr.tenR k)).mono (by omega)
theorem decimal_0a (w0 w:World) (g:Nat) (s:ByteArray) (f:Fm) (h:FSt w0 w g s f) (hm:Dig f.m.data.toList) (hml:f.m.size≤200000) (hx:Dig f.exp.data.toList) (hxl:f.exp.size≤65536) (hbh:f.behind≤65536) (he:f.exp.size=0) (hb:f.behind=0) :
  Calls Tryz.prog 146 #[.pointer (some ⟨g,0,none⟩)] w (DPost w (scaleF (dval f.m.data.toList) (0))):=by
 have c4:=h.c 4 (.string f.m) rfl
 have c5:=h.c 5 (.int .i64 f.behind) rfl
 have c6:=h.c 6 (.string f.exp) rfl
 have c7:=h.c 7 (.bool f.minus) rfl
 have HB:=Lib.hid h.below
 have HG:=Lib.hid (zas h.blk)
 have hu105:=Tryz.underlying105
 have hu112:=Tryz.underlying112
 have HM:=fun W=>zaQ f.m W hm
 have HX:=fun W=>zaQ f.exp W hx
 clear hm hx h
 have he1:=bs_nil he
 generalize dval f.m.data.toList=M at *
 rw [hb] at c5
 generalize f.exp=ex at *
 clear HX he
 have hbc:=Below.refl w.heap.size w
 go_enter Tryz.func146,Tryz.ntmps146
 go_wp2_with fail
 refine (HM _).mono ?_
 rintro e w1 ⟨rfl,rfl⟩
 clear HM
 by_cases h1:600<(T M).size
 ·have HR:=Lib.hid (zce (M:=M) (k:=0) (Or.inl h1))
  go_wp2
  go_ret2
  exact DPost.no HR.out hbc
 ·have hk:¬ (0:Int)<0:=by omega
  ·by_cases hM:M=0
   ·subst hM
    have hz:=t0_eq
    have HR:=Lib.hid ((za9 (M:=0) (k:=0) (fun h=>h.elim h1 (fun h=>h.elim (fun h=>hk h.1) (fun h=>h.2.1 rfl)))).trans (congrArg some (Rat.zero_mul _)))
    have hnew:=RatAt.new w 112 (by decide)
    have hba:=zaa (Below.refl w.heap.size w) (.cells #[.bool false,.slice none 0 0,.bool false,.slice none 0 0] 112)
    have hsz:=hbc.size
    go_wp2
    go_ret2
    exact DPost.yes HR.out hsz hnew ⟨show (0:Nat)<2^20000 from Nat.pow_pos (by decide),show (1:Nat)<2^20000 from Nat.one_lt_two_pow (by decide)⟩ (bthen hbc hba)
   ·have hz:=t0_ne hM
    have HR:=Lib.hid (za9 (M:=M) (k:=0) (fun h=>h.elim h1 (fun h=>h.elim (fun h=>hk h.1) (fun h=>by omega))))
    have HBR:=Lib.hid (zcq (M:=M) (k:=0) (by omega) (by omega) (by omega))
    have HBM:=Lib.hid (show Bd 2000 ((M:Nat):Int) from bd600 ((zaz (by decide)).1 (by omega)))
    have hms:(T M).size≤1048576:=by omega
    have hsz:=hbc.size
    have hbA:=bthen (zaa (Below.refl w.heap.size w) (.cells #[.bool false,.slice none 0 0,.bool false,.slice none 0 0] 112)) (zaa (Below.refl _ _) (.cells #[.bool false,.slice none 0 0,.bool false,.slice none 0 0] 112))
    have hr2:RatAt ((w.alloc (.cells #[.bool false,.slice none 0 0,.bool false,.slice none 0 0] 112)).alloc (.cells #[.bool false,.slice none 0 0,.bool false,.slice none 0 0] 112)) (w.heap.size+1) 0:=by
     have h:=RatAt.new (w.alloc (.cells #[.bool false,.slice none 0 0,.bool false,.slice none 0 0] 112)) 112 (by decide)
     rwa [World.size_alloc] at h
    have hr1:=(RatAt.new w 112 (by decide)).slot.below (zaa (Below.refl (w.alloc (.cells #[.bool false,.slice none 0 0,.bool false,.slice none 0 0] 112)).heap.size (w.alloc (.cells #[.bool false,.slice none 0 0,.bool false,.slice none 0 0] 112))) (.cells #[.bool false,.slice none 0 0,.bool false,.slice none 0 0] 112))
    have hBA:=bthen hbc hbA
    go_wp2_with fail
    generalize (w.alloc (.cells #[.bool false,.slice none 0 0,.bool false,.slice none 0 0] 112)).alloc (.cells #[.bool false,.slice none 0 0,.bool false,.slice none 0 0] 112)=wA at *
    have hsA:=hbA.size
    have hz20:w.heap.size≤w.heap.size+1:=by omega
    with_reducible refine (zbh M _ hms).mono ?_
    rintro e w3 ⟨D,rfl,hD,hm3,hb3⟩
    have hr23:=hr2.slot.below hb3
    have hr13:=hr1.below hb3
    have hB3:=bthen hBA hb3
    have hlA:=hr2.lt
    clear hr2 hr1 hBA hbA hb3
    go_wp2_with fail
    with_reducible refine (zaO (w.heap.size+1) D 0 M _ hr23 hm3 HBM.out (by unfold big; omega)).mono ?_
    rintro e w4 ⟨rfl,hf4,hu4⟩
    have hr14:=hr13.upd hu4
    have hB4:=hu4.new hB3 hz20
    clear hr23 hr13 hm3 hB3 hu4
    go_wp2_with fail
    with_reducible refine (zbT (0) _ (by omega) (by omega)).mono ?_
    rintro e w5 ⟨G,rfl,hG,ht5,hb5⟩
    have hf5:=hf4.below hb5
    have hr15:=hr14.below hb5
    have hB5:=bthen hB4 hb5
    have htn:=Bdr.tenR (0)
    have HTN:=Lib.hid htn
    have hkn:(0:Int).natAbs≤10000:=by omega
    clear hf4 hr14 hB4 hb5 htn
    go_wp2_with fail
    with_reducible refine (zbn w.heap.size (w.heap.size+1) G _ _ _ hr15 hf5 ht5 (Bdr.int HBM.out (by decide)) HTN.out (by unfold big; omega)).mono ?_
    rintro e w6 ⟨rfl,hm6,hu6⟩
    have hB6:=hu6.new hB5 hsz
    clear hr15 hf5 ht5 hB5 hu6
    go_wp2
    go_ret2
    exact DPost.yes HR.out hsz hm6 HBR.out hB6
theorem decimal_0b (w0 w:World) (g:Nat) (s:ByteArray) (f:Fm) (h:FSt w0 w g s f) (hm:Dig f.m.data.toList) (hml:f.m.size≤200000) (hx:Dig f.exp.data.toList) (hxl:f.exp.size≤65536) (hbh:f.behind≤65536) (he:f.exp.size=0) (hb:f.behind≠0) :
  Calls Tryz.prog 146 #[.pointer (some ⟨g,0,none⟩)] w (DPost w (scaleF (dval f.m.data.toList) (-(f.behind:Int)))):=by
 have c4:=h.c 4 (.string f.m) rfl
 have c5:=h.c 5 (.int .i64 f.behind) rfl
 have c6:=h.c 6 (.string f.exp) rfl
 have c7:=h.c 7 (.bool f.minus) rfl
 have HB:=Lib.hid h.below
 have HG:=Lib.hid (zas h.blk)
 have hu105:=Tryz.underlying105
 have hu112:=Tryz.underlying112
 have HM:=fun W=>zaQ f.m W hm
 have HX:=fun W=>zaQ f.exp W hx
 clear hm hx h
 have he1:=bs_nil he
 generalize dval f.m.data.toList=M at *
 generalize f.behind=b at *
 generalize f.exp=ex at *
 clear HX he
 have hbc:=Below.refl w.heap.size w
 go_enter Tryz.func146,Tryz.ntmps146
 go_wp2_with fail
 refine (HM _).mono ?_
 rintro e w1 ⟨rfl,rfl⟩
 clear HM
 by_cases h1:600<(T M).size
 ·have HR:=Lib.hid (zce (M:=M) (k:=-(b:Int)) (Or.inl h1))
  go_wp2
  go_ret2
  exact DPost.no HR.out hbc
 ·have hk : -(b:Int)<0:=by omega
  skip
  ·by_cases h2:600<1-(-(b:Int))
   ·have HR:=Lib.hid (zce (M:=M) (k:=-(b:Int)) (Or.inr (Or.inl ⟨hk,h2⟩)))
    go_wp2
    go_ret2
    exact DPost.no HR.out hbc
   ·by_cases hM:M=0
    ·subst hM
     have hz:=t0_eq
     have HR:=Lib.hid ((za9 (M:=0) (k:=-(b:Int)) (fun h=>h.elim h1 (fun h=>h.elim (fun h=>h2 h.2) (fun h=>by omega)))).trans (congrArg some (Rat.zero_mul _)))
     have hnew:=RatAt.new w 112 (by decide)
     have hba:=zaa (Below.refl w.heap.size w) (.cells #[.bool false,.slice none 0 0,.bool false,.slice none 0 0] 112)
     have hsz:=hbc.size
     go_wp2
     go_ret2
     exact DPost.yes HR.out hsz hnew ⟨show (0:Nat)<2^20000 from Nat.pow_pos (by decide),show (1:Nat)<2^20000 from Nat.one_lt_two_pow (by decide)⟩ (bthen hbc hba)
    ·have hz:=t0_ne hM
     have HR:=Lib.hid (za9 (M:=M) (k:=-(b:Int)) (fun h=>h.elim h1 (fun h=>h.elim (fun h=>h2 h.2) (fun h=>by omega))))
     have HBR:=Lib.hid (zcq (M:=M) (k:=-(b:Int)) (by omega) (by omega) (by omega))
     have HBM:=Lib.hid (show Bd 2000 ((M:Nat):Int) from bd600 ((zaz (by decide)).1 (by omega)))
     have hms:(T M).size≤1048576:=by omega
     have hsz:=hbc.size
     have hbA:=bthen (zaa (Below.refl w.heap.size w) (.cells #[.bool false,.slice none 0 0,.bool false,.slice none 0 0] 112)) (zaa (Below.refl _ _) (.cells #[.bool false,.slice none 0 0,.bool false,.slice none 0 0] 112))
     have hr2:RatAt ((w.alloc (.cells #[.bool false,.slice none 0 0,.bool false,.slice none 0 0] 112)).alloc (.cells #[.bool false,.slice none 0 0,.bool false,.slice none 0 0] 112)) (w.heap.size+1) 0:=by
      have h:=RatAt.new (w.alloc (.cells #[.bool false,.slice none 0 0,.bool false,.slice none 0 0] 112)) 112 (by decide)
      rwa [World.size_alloc] at h
     have hr1:=(RatAt.new w 112 (by decide)).slot.below (zaa (Below.refl (w.alloc (.cells #[.bool false,.slice none 0 0,.bool false,.slice none 0 0] 112)).heap.size (w.alloc (.cells #[.bool false,.slice none 0 0,.bool false,.slice none 0 0] 112))) (.cells #[.bool false,.slice none 0 0,.bool false,.slice none 0 0] 112))
     have hBA:=bthen hbc hbA
     go_wp2_with fail
     generalize (w.alloc (.cells #[.bool false,.slice none 0 0,.bool false,.slice none 0 0] 112)).alloc (.cells #[.bool false,.slice none 0 0,.bool false,.slice none 0 0] 112)=wA at *
     have hsA:=hbA.size
     have hz20:w.heap.size≤w.heap.size+1:=by omega
     with_reducible refine (zbh M _ hms).mono ?_
     rintro e w3 ⟨D,rfl,hD,hm3,hb3⟩
     have hr23:=hr2.slot.below hb3
     have hr13:=hr1.below hb3
     have hB3:=bthen hBA hb3
     have hlA:=hr2.lt
     clear hr2 hr1 hBA hbA hb3
     go_wp2_with fail
     with_reducible refine (zaO (w.heap.size+1) D 0 M _ hr23 hm3 HBM.out (by unfold big; omega)).mono ?_
     rintro e w4 ⟨rfl,hf4,hu4⟩
     have hr14:=hr13.upd hu4
     have hB4:=hu4.new hB3 hz20
     clear hr23 hr13 hm3 hB3 hu4
     go_wp2_with fail
     with_reducible refine (zbT (-(b:Int)) _ (by omega) (by omega)).mono ?_
     rintro e w5 ⟨G,rfl,hG,ht5,hb5⟩
     have hf5:=hf4.below hb5
     have hr15:=hr14.below hb5
     have hB5:=bthen hB4 hb5
     have htn:=Bdr.tenR (-(b:Int))
     have HTN:=Lib.hid htn
     have hkn:(-(b:Int):Int).natAbs≤10000:=by omega
     clear hf4 hr14 hB4 hb5 htn
     go_wp2_with fail
     with_reducible refine (zbn w.heap.size (w.heap.size+1) G _ _ _ hr15 hf5 ht5 (Bdr.int HBM.out (by decide)) HTN.out (by unfold big; omega)).mono ?_
     rintro e w6 ⟨rfl,hm6,hu6⟩
     have hB6:=hu6.new hB5 hsz
     clear hr15 hf5 ht5 hB5 hu6
     go_wp2
     go_ret2
     exact DPost.yes HR.out hsz hm6 HBR.out hB6
theorem decimal_m (w0 w:World) (g:Nat) (s:ByteArray) (f:Fm) (h:FSt w0 w g s f) (hm:Dig f.m.data.toList) (hml:f.m.size≤200000) (hx:Dig f.exp.data.toList) (hxl:f.exp.size≤65536) (hbh:f.behind≤65536) (he:f.exp.size≠0) (hE:dval f.exp.data.toList≤4096) (hmi:f.minus=true) :
  Calls Tryz.prog 146 #[.pointer (some ⟨g,0,none⟩)] w (DPost w (scaleF (dval f.m.data.toList) (-(dval f.exp.data.toList:Int)-(f.behind:Int)))):=by
 have c4:=h.c 4 (.string f.m) rfl
 have c5:=h.c 5 (.int .i64 f.behind) rfl
 have c6:=h.c 6 (.string f.exp) rfl
 have c7:=h.c 7 (.bool f.minus) rfl
 have HB:=Lib.hid h.below
 have HG:=Lib.hid (zas h.blk)
 have hu105:=Tryz.underlying105
 have hu112:=Tryz.underlying112
 have HM:=fun W=>zaQ f.m W hm
 have HX:=fun W=>zaQ f.exp W hx
 clear hm hx h
 obtain ⟨he1,he2⟩:=bs_ne he
 rw [hmi] at c7
 generalize dval f.m.data.toList=M at *
 generalize f.behind=b at *
 generalize dval f.exp.data.toList=E at *
 generalize f.exp=ex at *
 have hE600:E<10^600:=Nat.lt_of_le_of_lt hE (Nat.lt_of_lt_of_le (show 4096<10^4 by decide) (Nat.pow_le_pow_right (by decide) (by decide)))
 have HN:=fun W=>zcJ E W hE600
 have hni:natI E=((E:Int),0):=if_pos (by omega)
 rw [hni] at HN
 clear he hmi hE600 hni hxl
 go_enter Tryz.func146,Tryz.ntmps146
 go_wp2_with fail
 refine (HM _).mono ?_
 rintro e w1 ⟨rfl,rfl⟩
 clear HM
 go_wp2_with fail
 refine (HX _).mono ?_
 rintro e w1 ⟨rfl,rfl⟩
 go_wp2_with fail
 refine (HN _).mono ?_
 rintro e wc ⟨rfl,hbc⟩
 have c5':=(hbc.cell (p:=⟨g,5,none⟩) HG.out).trans c5
 have c7':=(hbc.cell (p:=⟨g,7,none⟩) HG.out).trans c7
 clear HX HN c4 c5 c6 c7
 by_cases h1:600<(T M).size
 ·have HR:=Lib.hid (zce (M:=M) (k:=-(E:Int)-(b:Int)) (Or.inl h1))
  go_wp2
  go_ret2
  exact DPost.no HR.out hbc
 ·by_cases hk : -(E:Int)-(b:Int)<0
  ·by_cases h2:600<1-(-(E:Int)-(b:Int))
   ·have HR:=Lib.hid (zce (M:=M) (k:=-(E:Int)-(b:Int)) (Or.inr (Or.inl ⟨hk,h2⟩)))
    go_wp2
    go_ret2
    exact DPost.no HR.out hbc
   ·by_cases hM:M=0
    ·subst hM
     have hz:=t0_eq
     have HR:=Lib.hid ((za9 (M:=0) (k:=-(E:Int)-(b:Int)) (fun h=>h.elim h1 (fun h=>h.elim (fun h=>h2 h.2) (fun h=>by omega)))).trans (congrArg some (Rat.zero_mul _)))
     have hnew:=RatAt.new wc 112 (by decide)
     have hba:=zaa (Below.refl wc.heap.size wc) (.cells #[.bool false,.slice none 0 0,.bool false,.slice none 0 0] 112)
     have hsz:=hbc.size
     go_wp2
     go_ret2
     exact DPost.yes HR.out hsz hnew ⟨show (0:Nat)<2^20000 from Nat.pow_pos (by decide),show (1:Nat)<2^20000 from Nat.one_lt_two_pow (by decide)⟩ (bthen hbc hba)
    ·have hz:=t0_ne hM
     have HR:=Lib.hid (za9 (M:=M) (k:=-(E:Int)-(b:Int)) (fun h=>h.elim h1 (fun h=>h.elim (fun h=>h2 h.2) (fun h=>by omega))))
     have HBR:=Lib.hid (zcq (M:=M) (k:=-(E:Int)-(b:Int)) (by omega) (by omega) (by omega))
     have HBM:=Lib.hid (show Bd 2000 ((M:Nat):Int) from bd600 ((zaz (by decide)).1 (by omega)))
     have hms:(T M).size≤1048576:=by omega
     have hsz:=hbc.size
     have hbA:=bthen (zaa (Below.refl wc.heap.size wc) (.cells #[.bool false,.slice none 0 0,.bool false,.slice none 0 0] 112)) (zaa (Below.refl _ _) (.cells #[.bool false,.slice none 0 0,.bool false,.slice none 0 0] 112))
     have hr2:RatAt ((wc.alloc (.cells #[.bool false,.slice none 0 0,.bool false,.slice none 0 0] 112)).alloc (.cells #[.bool false,.slice none 0 0,.bool false,.slice none 0 0] 112)) (wc.heap.size+1) 0:=by
      have h:=RatAt.new (wc.alloc (.cells #[.bool false,.slice none 0 0,.bool false,.slice none 0 0] 112)) 112 (by decide)
      rwa [World.size_alloc] at h
     have hr1:=(RatAt.new wc 112 (by decide)).slot.below (zaa (Below.refl (wc.alloc (.cells #[.bool false,.slice none 0 0,.bool false,.slice none 0 0] 112)).heap.size (wc.alloc (.cells #[.bool false,.slice none 0 0,.bool false,.slice none 0 0] 112))) (.cells #[.bool false,.slice none 0 0,.bool false,.slice none 0 0] 112))
     have hBA:=bthen hbc hbA
     go_wp2_with fail
     generalize (wc.alloc (.cells #[.bool false,.slice none 0 0,.bool false,.slice none 0 0] 112)).alloc (.cells #[.bool false,.slice none 0 0,.bool false,.slice none 0 0] 112)=wA at *
     have hsA:=hbA.size
     have hz20:w.heap.size≤wc.heap.size+1:=by omega
     with_reducible refine (zbh M _ hms).mono ?_
     rintro e w3 ⟨D,rfl,hD,hm3,hb3⟩
     have hr23:=hr2.slot.below hb3
     have hr13:=hr1.below hb3
     have hB3:=bthen hBA hb3
     have hlA:=hr2.lt
     clear hr2 hr1 hBA hbA hb3
     go_wp2_with fail
     with_reducible refine (zaO (wc.heap.size+1) D 0 M _ hr23 hm3 HBM.out (by unfold big; omega)).mono ?_
     rintro e w4 ⟨rfl,hf4,hu4⟩
     have hr14:=hr13.upd hu4
     have hB4:=hu4.new hB3 hz20
     clear hr23 hr13 hm3 hB3 hu4
     go_wp2_with fail
     with_reducible refine (zbT (-(E:Int)-(b:Int)) _ (by omega) (by omega)).mono ?_
     rintro e w5 ⟨G,rfl,hG,ht5,hb5⟩
     have hf5:=hf4.below hb5
     have hr15:=hr14.below hb5
     have hB5:=bthen hB4 hb5
     have htn:=Bdr.tenR (-(E:Int)-(b:Int))
     have HTN:=Lib.hid htn
     have hkn:(-(E:Int)-(b:Int):Int).natAbs≤10000:=by omega
     clear hf4 hr14 hB4 hb5 htn
     go_wp2_with fail
     with_reducible refine (zbn wc.heap.size (wc.heap.size+1) G _ _ _ hr15 hf5 ht5 (Bdr.int HBM.out (by decide)) HTN.out (by unfold big; omega)).mono ?_
     rintro e w6 ⟨rfl,hm6,hu6⟩
     have hB6:=hu6.new hB5 hsz
     clear hr15 hf5 ht5 hB5 hu6
     go_wp2
     go_ret2
     exact DPost.yes HR.out hsz hm6 HBR.out hB6
  ·by_cases hM:M=0
   ·subst hM
    have hz:=t0_eq
    have HR:=Lib.hid ((za9 (M:=0) (k:=-(E:Int)-(b:Int)) (fun h=>h.elim h1 (fun h=>h.elim (fun h=>hk h.1) (fun h=>h.2.1 rfl)))).trans (congrArg some (Rat.zero_mul _)))
    have hnew:=RatAt.new wc 112 (by decide)
    have hba:=zaa (Below.refl wc.heap.size wc) (.cells #[.bool false,.slice none 0 0,.bool false,.slice none 0 0] 112)
    have hsz:=hbc.size
    go_wp2
    go_ret2
    exact DPost.yes HR.out hsz hnew ⟨show (0:Nat)<2^20000 from Nat.pow_pos (by decide),show (1:Nat)<2^20000 from Nat.one_lt_two_pow (by decide)⟩ (bthen hbc hba)
   ·by_cases h3:600<((T M).size:Int)+(-(E:Int)-(b:Int))
    ·exact absurd h3 (by omega)
    ·have hz:=t0_ne hM
     have HR:=Lib.hid (za9 (M:=M) (k:=-(E:Int)-(b:Int)) (fun h=>h.elim h1 (fun h=>h.elim (fun h=>hk h.1) (fun h=>h3 h.2.2))))
     have HBR:=Lib.hid (zcq (M:=M) (k:=-(E:Int)-(b:Int)) (by omega) (by omega) (by omega))
     have HBM:=Lib.hid (show Bd 2000 ((M:Nat):Int) from bd600 ((zaz (by decide)).1 (by omega)))
     have hms:(T M).size≤1048576:=by omega
     have hsz:=hbc.size
     have hbA:=bthen (zaa (Below.refl wc.heap.size wc) (.cells #[.bool false,.slice none 0 0,.bool false,.slice none 0 0] 112)) (zaa (Below.refl _ _) (.cells #[.bool false,.slice none 0 0,.bool false,.slice none 0 0] 112))
     have hr2:RatAt ((wc.alloc (.cells #[.bool false,.slice none 0 0,.bool false,.slice none 0 0] 112)).alloc (.cells #[.bool false,.slice none 0 0,.bool false,.slice none 0 0] 112)) (wc.heap.size+1) 0:=by
      have h:=RatAt.new (wc.alloc (.cells #[.bool false,.slice none 0 0,.bool false,.slice none 0 0] 112)) 112 (by decide)
      rwa [World.size_alloc] at h
     have hr1:=(RatAt.new wc 112 (by decide)).slot.below (zaa (Below.refl (wc.alloc (.cells #[.bool false,.slice none 0 0,.bool false,.slice none 0 0] 112)).heap.size (wc.alloc (.cells #[.bool false,.slice none 0 0,.bool false,.slice none 0 0] 112))) (.cells #[.bool false,.slice none 0 0,.bool false,.slice none 0 0] 112))
     have hBA:=bthen hbc hbA
     go_wp2_with fail
     generalize (wc.alloc (.cells #[.bool false,.slice none 0 0,.bool false,.slice none 0 0] 112)).alloc (.cells #[.bool false,.slice none 0 0,.bool false,.slice none 0 0] 112)=wA at *
     have hsA:=hbA.size
     have hz20:w.heap.size≤wc.heap.size+1:=by omega
     with_reducible refine (zbh M _ hms).mono ?_
     rintro e w3 ⟨D,rfl,hD,hm3,hb3⟩
     have hr23:=hr2.slot.below hb3
     have hr13:=hr1.below hb3
     have hB3:=bthen hBA hb3
     have hlA:=hr2.lt
     clear hr2 hr1 hBA hbA hb3
     go_wp2_with fail
     with_reducible refine (zaO (wc.heap.size+1) D 0 M _ hr23 hm3 HBM.out (by unfold big; omega)).mono ?_
     rintro e w4 ⟨rfl,hf4,hu4⟩
     have hr14:=hr13.upd hu4
     have hB4:=hu4.new hB3 hz20
     clear hr23 hr13 hm3 hB3 hu4
     go_wp2_with fail
     with_reducible refine (zbT (-(E:Int)-(b:Int)) _ (by omega) (by omega)).mono ?_
     rintro e w5 ⟨G,rfl,hG,ht5,hb5⟩
     have hf5:=hf4.below hb5
     have hr15:=hr14.below hb5
     have hB5:=bthen hB4 hb5
     have htn:=Bdr.tenR (-(E:Int)-(b:Int))
     have HTN:=Lib.hid htn
     have hkn:(-(E:Int)-(b:Int):Int).natAbs≤10000:=by omega
     clear hf4 hr14 hB4 hb5 htn
     go_wp2_with fail
     with_reducible refine (zbn wc.heap.size (wc.heap.size+1) G _ _ _ hr15 hf5 ht5 (Bdr.int HBM.out (by decide)) HTN.out (by unfold big; omega)).mono ?_
     rintro e w6 ⟨rfl,hm6,hu6⟩
     have hB6:=hu6.new hB5 hsz
     clear hr15 hf5 ht5 hB5 hu6
     go_wp2
     go_ret2
     exact DPost.yes HR.out hsz hm6 HBR.out hB6
theorem decimal_p (w0 w:World) (g:Nat) (s:ByteArray) (f:Fm) (h:FSt w0 w g s f) (hm:Dig f.m.data.toList) (hml:f.m.size≤200000) (hx:Dig f.exp.data.toList) (hxl:f.exp.size≤65536) (hbh:f.behind≤65536) (he:f.exp.size≠0) (hE:dval f.exp.data.toList≤4096) (hmi:f.minus=false) :
  Calls Tryz.prog 146 #[.pointer (some ⟨g,0,none⟩)] w (DPost w (scaleF (dval f.m.data.toList) ((dval f.exp.data.toList:Int)-(f.behind:Int)))):=by
 have c4:=h.c 4 (.string f.m) rfl
 have c5:=h.c 5 (.int .i64 f.behind) rfl
 have c6:=h.c 6 (.string f.exp) rfl
 have c7:=h.c 7 (.bool f.minus) rfl
 have HB:=Lib.hid h.below
 have HG:=Lib.hid (zas h.blk)
 have hu105:=Tryz.underlying105
 have hu112:=Tryz.underlying112
 have HM:=fun W=>zaQ f.m W hm
 have HX:=fun W=>zaQ f.exp W hx
 clear hm hx h
 obtain ⟨he1,he2⟩:=bs_ne he
 rw [hmi] at c7
 generalize dval f.m.data.toList=M at *
 generalize f.behind=b at *
 generalize dval f.exp.data.toList=E at *
 generalize f.exp=ex at *
 have hE600:E<10^600:=Nat.lt_of_le_of_lt hE (Nat.lt_of_lt_of_le (show 4096<10^4 by decide) (Nat.pow_le_pow_right (by decide) (by decide)))
 have HN:=fun W=>zcJ E W hE600
 have hni:natI E=((E:Int),0):=if_pos (by omega)
 rw [hni] at HN
 clear he hmi hE600 hni hxl
 go_enter Tryz.func146,Tryz.ntmps146
 go_wp2_with fail
 refine (HM _).mono ?_
 rintro e w1 ⟨rfl,rfl⟩
 clear HM
 go_wp2_with fail
 refine (HX _).mono ?_
 rintro e w1 ⟨rfl,rfl⟩
 go_wp2_with fail
 refine (HN _).mono ?_
 rintro e wc ⟨rfl,hbc⟩
 have c5':=(hbc.cell (p:=⟨g,5,none⟩) HG.out).trans c5
 have c7':=(hbc.cell (p:=⟨g,7,none⟩) HG.out).trans c7
 clear HX HN c4 c5 c6 c7
 by_cases h1:600<(T M).size
 ·have HR:=Lib.hid (zce (M:=M) (k:=(E:Int)-(b:Int)) (Or.inl h1))
  go_wp2
  go_ret2
  exact DPost.no HR.out hbc
 ·by_cases hk:(E:Int)-(b:Int)<0
  ·by_cases h2:600<1-((E:Int)-(b:Int))
   ·have HR:=Lib.hid (zce (M:=M) (k:=(E:Int)-(b:Int)) (Or.inr (Or.inl ⟨hk,h2⟩)))
    go_wp2
    go_ret2
    exact DPost.no HR.out hbc
   ·by_cases hM:M=0
    ·subst hM
     have hz:=t0_eq
     have HR:=Lib.hid ((za9 (M:=0) (k:=(E:Int)-(b:Int)) (fun h=>h.elim h1 (fun h=>h.elim (fun h=>h2 h.2) (fun h=>by omega)))).trans (congrArg some (Rat.zero_mul _)))
     have hnew:=RatAt.new wc 112 (by decide)
     have hba:=zaa (Below.refl wc.heap.size wc) (.cells #[.bool false,.slice none 0 0,.bool false,.slice none 0 0] 112)
     have hsz:=hbc.size
     go_wp2
     go_ret2
     exact DPost.yes HR.out hsz hnew ⟨show (0:Nat)<2^20000 from Nat.pow_pos (by decide),show (1:Nat)<2^20000 from Nat.one_lt_two_pow (by decide)⟩ (bthen hbc hba)
    ·have hz:=t0_ne hM
     have HR:=Lib.hid (za9 (M:=M) (k:=(E:Int)-(b:Int)) (fun h=>h.elim h1 (fun h=>h.elim (fun h=>h2 h.2) (fun h=>by omega))))
     have HBR:=Lib.hid (zcq (M:=M) (k:=(E:Int)-(b:Int)) (by omega) (by omega) (by omega))
     have HBM:=Lib.hid (show Bd 2000 ((M:Nat):Int) from bd600 ((zaz (by decide)).1 (by omega)))
     have hms:(T M).size≤1048576:=by omega
     have hsz:=hbc.size
     have hbA:=bthen (zaa (Below.refl wc.heap.size wc) (.cells #[.bool false,.slice none 0 0,.bool false,.slice none 0 0] 112)) (zaa (Below.refl _ _) (.cells #[.bool false,.slice none 0 0,.bool false,.slice none 0 0] 112))
     have hr2:RatAt ((wc.alloc (.cells #[.bool false,.slice none 0 0,.bool false,.slice none 0 0] 112)).alloc (.cells #[.bool false,.slice none 0 0,.bool false,.slice none 0 0] 112)) (wc.heap.size+1) 0:=by
      have h:=RatAt.new (wc.alloc (.cells #[.bool false,.slice none 0 0,.bool false,.slice none 0 0] 112)) 112 (by decide)
      rwa [World.size_alloc] at h
     have hr1:=(RatAt.new wc 112 (by decide)).slot.below (zaa (Below.refl (wc.alloc (.cells #[.bool false,.slice none 0 0,.bool false,.slice none 0 0] 112)).heap.size (wc.alloc (.cells #[.bool false,.slice none 0 0,.bool false,.slice none 0 0] 112))) (.cells #[.bool false,.slice none 0 0,.bool false,.slice none 0 0] 112))
     have hBA:=bthen hbc hbA
     go_wp2_with fail
     generalize (wc.alloc (.cells #[.bool false,.slice none 0 0,.bool false,.slice none 0 0] 112)).alloc (.cells #[.bool false,.slice none 0 0,.bool false,.slice none 0 0] 112)=wA at *
     have hsA:=hbA.size
     have hz20:w.heap.size≤wc.heap.size+1:=by omega
     with_reducible refine (zbh M _ hms).mono ?_
     rintro e w3 ⟨D,rfl,hD,hm3,hb3⟩
     have hr23:=hr2.slot.below hb3
     have hr13:=hr1.below hb3
     have hB3:=bthen hBA hb3
     have hlA:=hr2.lt
     clear hr2 hr1 hBA hbA hb3
     go_wp2_with fail
     with_reducible refine (zaO (wc.heap.size+1) D 0 M _ hr23 hm3 HBM.out (by unfold big; omega)).mono ?_
     rintro e w4 ⟨rfl,hf4,hu4⟩
     have hr14:=hr13.upd hu4
     have hB4:=hu4.new hB3 hz20
     clear hr23 hr13 hm3 hB3 hu4
     go_wp2_with fail
     with_reducible refine (zbT ((E:Int)-(b:Int)) _ (by omega) (by omega)).mono ?_
     rintro e w5 ⟨G,rfl,hG,ht5,hb5⟩
     have hf5:=hf4.below hb5
     have hr15:=hr14.below hb5
     have hB5:=bthen hB4 hb5
     have htn:=Bdr.tenR ((E:Int)-(b:Int))
     have HTN:=Lib.hid htn
     have hkn:((E:Int)-(b:Int):Int).natAbs≤10000:=by omega
     clear hf4 hr14 hB4 hb5 htn
     go_wp2_with fail
     with_reducible refine (zbn wc.heap.size (wc.heap.size+1) G _ _ _ hr15 hf5 ht5 (Bdr.int HBM.out (by decide)) HTN.out (by unfold big; omega)).mono ?_
     rintro e w6 ⟨rfl,hm6,hu6⟩
     have hB6:=hu6.new hB5 hsz
     clear hr15 hf5 ht5 hB5 hu6
     go_wp2
     go_ret2
     exact DPost.yes HR.out hsz hm6 HBR.out hB6
  ·by_cases hM:M=0
   ·subst hM
    have hz:=t0_eq
    have HR:=Lib.hid ((za9 (M:=0) (k:=(E:Int)-(b:Int)) (fun h=>h.elim h1 (fun h=>h.elim (fun h=>hk h.1) (fun h=>h.2.1 rfl)))).trans (congrArg some (Rat.zero_mul _)))
    have hnew:=RatAt.new wc 112 (by decide)
    have hba:=zaa (Below.refl wc.heap.size wc) (.cells #[.bool false,.slice none 0 0,.bool false,.slice none 0 0] 112)
    have hsz:=hbc.size
    go_wp2
    go_ret2
    exact DPost.yes HR.out hsz hnew ⟨show (0:Nat)<2^20000 from Nat.pow_pos (by decide),show (1:Nat)<2^20000 from Nat.one_lt_two_pow (by decide)⟩ (bthen hbc hba)
   ·by_cases h3:600<((T M).size:Int)+((E:Int)-(b:Int))
    ·have HR:=Lib.hid (zce (M:=M) (k:=(E:Int)-(b:Int)) (Or.inr (Or.inr ⟨by omega,hM,h3⟩)))
     have hz:=t0_ne hM
     go_wp2
     go_ret2
     exact DPost.no HR.out hbc
    ·have hz:=t0_ne hM
     have HR:=Lib.hid (za9 (M:=M) (k:=(E:Int)-(b:Int)) (fun h=>h.elim h1 (fun h=>h.elim (fun h=>hk h.1) (fun h=>h3 h.2.2))))
     have HBR:=Lib.hid (zcq (M:=M) (k:=(E:Int)-(b:Int)) (by omega) (by omega) (by omega))
     have HBM:=Lib.hid (show Bd 2000 ((M:Nat):Int) from bd600 ((zaz (by decide)).1 (by omega)))
     have hms:(T M).size≤1048576:=by omega
     have hsz:=hbc.size
     have hbA:=bthen (zaa (Below.refl wc.heap.size wc) (.cells #[.bool false,.slice none 0 0,.bool false,.slice none 0 0] 112)) (zaa (Below.refl _ _) (.cells #[.bool false,.slice none 0 0,.bool false,.slice none 0 0] 112))
     have hr2:RatAt ((wc.alloc (.cells #[.bool false,.slice none 0 0,.bool false,.slice none 0 0] 112)).alloc (.cells #[.bool false,.slice none 0 0,.bool false,.slice none 0 0] 112)) (wc.heap.size+1) 0:=by
      have h:=RatAt.new (wc.alloc (.cells #[.bool false,.slice none 0 0,.bool false,.slice none 0 0] 112)) 112 (by decide)
      rwa [World.size_alloc] at h
     have hr1:=(RatAt.new wc 112 (by decide)).slot.below (zaa (Below.refl (wc.alloc (.cells #[.bool false,.slice none 0 0,.bool false,.slice none 0 0] 112)).heap.size (wc.alloc (.cells #[.bool false,.slice none 0 0,.bool false,.slice none 0 0] 112))) (.cells #[.bool false,.slice none 0 0,.bool false,.slice none 0 0] 112))
     have hBA:=bthen hbc hbA
     go_wp2_with fail
     generalize (wc.alloc (.cells #[.bool false,.slice none 0 0,.bool false,.slice none 0 0] 112)).alloc (.cells #[.bool false,.slice none 0 0,.bool false,.slice none 0 0] 112)=wA at *
     have hsA:=hbA.size
     have hz20:w.heap.size≤wc.heap.size+1:=by omega
     with_reducible refine (zbh M _ hms).mono ?_
     rintro e w3 ⟨D,rfl,hD,hm3,hb3⟩
     have hr23:=hr2.slot.below hb3
     have hr13:=hr1.below hb3
     have hB3:=bthen hBA hb3
     have hlA:=hr2.lt
     clear hr2 hr1 hBA hbA hb3
     go_wp2_with fail
     with_reducible refine (zaO (wc.heap.size+1) D 0 M _ hr23 hm3 HBM.out (by unfold big; omega)).mono ?_
     rintro e w4 ⟨rfl,hf4,hu4⟩
     have hr14:=hr13.upd hu4
     have hB4:=hu4.new hB3 hz20
     clear hr23 hr13 hm3 hB3 hu4
     go_wp2_with fail
     with_reducible refine (zbT ((E:Int)-(b:Int)) _ (by omega) (by omega)).mono ?_
     rintro e w5 ⟨G,rfl,hG,ht5,hb5⟩
     have hf5:=hf4.below hb5
     have hr15:=hr14.below hb5
     have hB5:=bthen hB4 hb5
     have htn:=Bdr.tenR ((E:Int)-(b:Int))
     have HTN:=Lib.hid htn
     have hkn:((E:Int)-(b:Int):Int).natAbs≤10000:=by omega
     clear hf4 hr14 hB4 hb5 htn
     go_wp2_with fail
     with_reducible refine (zbn wc.heap.size (wc.heap.size+1) G _ _ _ hr15 hf5 ht5 (Bdr.int HBM.out (by decide)) HTN.out (by unfold big; omega)).mono ?_
     rintro e w6 ⟨rfl,hm6,hu6⟩
     have hB6:=hu6.new hB5 hsz
     clear hr15 hf5 ht5 hB5 hu6
     go_wp2
     go_ret2
     exact DPost.yes HR.out hsz hm6 HBR.out hB6
theorem decimal_x (w0 w:World) (g:Nat) (s:ByteArray) (f:Fm) (h:FSt w0 w g s f) (hm:Dig f.m.data.toList) (hml:f.m.size≤200000) (hx:Dig f.exp.data.toList) (hxl:f.exp.size≤65536) (hbh:f.behind≤65536) (he:f.exp.size≠0) (hE:4096<dval f.exp.data.toList) :
  Calls Tryz.prog 146 #[.pointer (some ⟨g,0,none⟩)] w (DPost w none):=by
 have c4:=h.c 4 (.string f.m) rfl
 have c5:=h.c 5 (.int .i64 f.behind) rfl
 have c6:=h.c 6 (.string f.exp) rfl
 have c7:=h.c 7 (.bool f.minus) rfl
 have HB:=Lib.hid h.below
 have HG:=Lib.hid (zas h.blk)
 have hu105:=Tryz.underlying105
 have hu112:=Tryz.underlying112
 have HM:=fun W=>zaQ f.m W hm
 have HX:=fun W=>zaQ f.exp W hx
 clear hm hx h
 obtain ⟨he1,he2⟩:=bs_ne he
 generalize dval f.m.data.toList=M at *
 generalize dval f.exp.data.toList=E at *
 generalize f.exp=ex at *
 clear he
 by_cases h6:E<10^600
 ·have HN:=fun W=>zcJ E W h6
  clear h6
  by_cases hbig:E<18446744073709551616
  ·have hni:natI E=((E:Int),0):=if_pos hbig
   rw [hni] at HN
   clear hni
   go_enter Tryz.func146,Tryz.ntmps146
   go_wp2_with fail
   refine (HM _).mono ?_
   rintro e w1 ⟨rfl,rfl⟩
   clear HM
   go_wp2_with fail
   refine (HX _).mono ?_
   rintro e w1 ⟨rfl,rfl⟩
   go_wp2_with fail
   refine (HN _).mono ?_
   rintro e wc ⟨rfl,hbc⟩
   clear HX HN c4 c5 c6 c7
   go_wp2
   go_ret2
   exact DPost.no rfl hbc
  ·have hni:natI E=(0,7):=if_neg hbig
   rw [hni] at HN
   clear hni hbig hE
   go_enter Tryz.func146,Tryz.ntmps146
   go_wp2_with fail
   refine (HM _).mono ?_
   rintro e w1 ⟨rfl,rfl⟩
   clear HM
   go_wp2_with fail
   refine (HX _).mono ?_
   rintro e w1 ⟨rfl,rfl⟩
   go_wp2_with fail
   refine (HN _).mono ?_
   rintro e wc ⟨rfl,hbc⟩
   clear HX HN c4 c5 c6 c7
   go_wp2
   go_ret2
   exact DPost.no rfl hbc
 ·have HN:=fun W=>natInt_no (T E) W (by
   cases hr:rightB (T E)
   ·rfl
   ·obtain ⟨n,h1,h2⟩:=right_iff.1 hr
    have:=T_inj h1
    omega)
  clear h6 hE
  go_enter Tryz.func146,Tryz.ntmps146
  go_wp2_with fail
  refine (HM _).mono ?_
  rintro e w1 ⟨rfl,rfl⟩
  clear HM
  go_wp2_with fail
  refine (HX _).mono ?_
  rintro e w1 ⟨rfl,rfl⟩
  go_wp2_with fail
  refine (HN _).mono ?_
  rintro e wc ⟨rfl,hbc⟩
  clear HX HN c4 c5 c6 c7
  go_wp2
  go_ret2
  exact DPost.no rfl hbc
theorem zdv (w0 w:World) (g:Nat) (s:ByteArray) (f:Fm) (h:FSt w0 w g s f) (hm:Dig f.m.data.toList) (hml:f.m.size≤200000) (hx:Dig f.exp.data.toList) (hxl:f.exp.size≤65536) (hbh:f.behind≤65536) :
  Calls Tryz.prog 146 #[.pointer (some ⟨g,0,none⟩)] w (DPost w (decF f)):=by
 by_cases he:f.exp.size=0
 ·by_cases hb:f.behind=0
  ·have:=decimal_0a w0 w g s f h hm hml hx hxl hbh he hb
   have e:decF f=scaleF (dval f.m.data.toList) 0:=by
    unfold decF expE
    rw [if_pos he]
    show scaleF _ (0-(f.behind:Int))=_
    rw [hb]; rfl
   rw [e]; exact this
  ·have:=decimal_0b w0 w g s f h hm hml hx hxl hbh he hb
   have e:decF f=scaleF (dval f.m.data.toList) (-(f.behind:Int)):=by
    unfold decF expE
    rw [if_pos he]
    show scaleF _ (0-(f.behind:Int))=_
    rw [Int.zero_sub]
   rw [e]; exact this
 ·by_cases hE:4096<dval f.exp.data.toList
  ·have:=decimal_x w0 w g s f h hm hml hx hxl hbh he hE
   have e:decF f=none:=by unfold decF expE; rw [if_neg he,if_pos hE]; rfl
   rw [e]; exact this
  ·cases hmi:f.minus
   ·have:=decimal_p w0 w g s f h hm hml hx hxl hbh he (by omega) hmi
    have e:decF f=scaleF (dval f.m.data.toList) ((dval f.exp.data.toList:Int)-(f.behind:Int)):=by unfold decF expE; rw [if_neg he,if_neg hE,hmi]; rfl
    rw [e]; exact this
   ·have:=decimal_m w0 w g s f h hm hml hx hxl hbh he (by omega) hmi
    have e:decF f=scaleF (dval f.m.data.toList) (-(dval f.exp.data.toList:Int)-(f.behind:Int)):=by unfold decF expE; rw [if_neg he,if_neg hE,hmi]; rfl
    rw [e]; exact this
theorem isD_iff {c:UInt8}:isD c=true↔48≤c.toNat∧c.toNat≤57:=by unfold isD; simp
theorem digT_data (s:ByteArray) (f:Fm):(f.digT s).data.toList=(s.data.toList.drop f.at_).takeWhile isD:=by
 unfold Fm.digT runN
 rw [ByteArray.data_extract,Array.toList_extract,List.extract_eq_take_drop,Nat.add_sub_cancel_left]
 exact (List.prefix_iff_eq_take.1 (List.takeWhile_prefix isD)).symm
theorem dig_takeWhile (l:List UInt8):Dig (l.takeWhile isD):=by
 induction l with
 | nil=>intro c hc; cases hc
 | cons b t ih =>
  intro c hc
  rw [List.takeWhile_cons] at hc
  split at hc
  ·rename_i hb
   rcases List.mem_cons.1 hc with rfl|hc
   ·exact isD_iff.1 hb
   ·exact ih c hc
  ·cases hc
theorem dig_nil:Dig []:=fun c hc=>by cases hc
theorem digT_dig (s:ByteArray) (f:Fm):Dig (f.digT s).data.toList:=by rw [digT_data]; exact dig_takeWhile _
theorem dig_app {a b:ByteArray} (ha:Dig a.data.toList) (hb:Dig b.data.toList):Dig (a++b).data.toList:=fun c hc=>by
 rw [ByteArray.data_append,Array.toList_append] at hc
 exact (List.mem_append.1 hc).elim (ha c) (hb c)
structure Gd (s:ByteArray) (f:Fm):Prop where
 m:Dig f.m.data.toList
 x:Dig f.exp.data.toList
 d:Dig f.den.data.toList
 mz:f.m.size≤2*s.size
 xz:f.exp.size≤s.size
 dz:f.den.size≤s.size
 bh:f.behind≤s.size
 at_:Okf s f
theorem Gd.sgn {s set:ByteArray} {f:Fm} (h:Gd s f):Gd s (f.sgn s set):=by
 have ha:=h.at_.sgn (set:=set)
 unfold Fm.sgn at *
 split
 ·rename_i hb
  rw [if_pos hb] at ha
  exact ⟨h.m,h.x,h.d,h.mz,h.xz,h.dz,h.bh,ha⟩
 ·exact h
theorem Gd.dig {s:ByteArray} {f:Fm} (h:Gd s f):Gd s (f.dig s):=⟨h.m,h.x,h.d,h.mz,h.xz,h.dz,h.bh,h.at_.dig⟩
theorem sgn_m2 (s set:ByteArray) (f:Fm):(f.sgn s set).m=f.m:=Fm.sgn_m s set f
theorem form1_ok (s:ByteArray):Gd s (form1 s)∧(form1 s).m.size≤s.size:=by
 have h0:Gd s F0:=⟨dig_nil,dig_nil,dig_nil,Nat.zero_le _,Nat.zero_le _,Nat.zero_le _,Nat.zero_le _,Nat.zero_le _⟩
 have h1:Gd s { F0.sgn s cM with neg:=F0.sgV s cM != 0 }:=by
  have h:=h0.sgn (set:=cM)
  exact ⟨h.m,h.x,h.d,h.mz,h.xz,h.dz,h.bh,h.at_⟩
 have h2:=h1.dig
 have hz:=zcp s { F0.sgn s cM with neg:=F0.sgV s cM != 0 }
 exact ⟨⟨digT_dig _ _,h2.x,h2.d,Nat.le_trans hz (by omega),h2.xz,h2.dz,h2.bh,h2.at_⟩,hz⟩
theorem formS_ok {s:ByteArray} {f:Fm} (h:Gd s f):Gd s (formS s f):=by
 have h1:Gd s { f.sgn s cS with fraction:=true,slash:=(f.sgn s cS).at_ }:=by
  have h:=h.sgn (set:=cS)
  exact ⟨h.m,h.x,h.d,h.mz,h.xz,h.dz,h.bh,h.at_⟩
 have h2:=h1.dig
 exact ⟨h2.m,h2.x,digT_dig _ _,h2.mz,h2.xz,zcp _ _,h2.bh,h2.at_⟩
theorem formP_ok {s:ByteArray} {f:Fm} (h:Gd s f) (hm:f.m.size≤s.size):Gd s (formP s f):=by
 unfold formP
 split
 ·exact h.sgn
 ·have h1:=h.sgn (set:=cP)
  have h2:=h1.dig
  have hz:=zcp s (f.sgn s cP)
  refine ⟨dig_app h1.m (digT_dig _ _),h2.x,h2.d,?_,h2.xz,h2.dz,hz,h2.at_⟩
  show ((f.sgn s cP).m++_).size≤_
  rw [ByteArray.size_append,sgn_m2]
  omega
theorem formE_ok {s:ByteArray} {f:Fm} (h:Gd s f):Gd s (formE s f):=by
 unfold formE
 split
 ·exact h.sgn
 ·have h1:=h.sgn (set:=cE)
  have h2:Gd s { (f.sgn s cE).sgn s cPM with minus:=(f.sgn s cE).sgV s cPM == 45 }:=by
   have h:=h1.sgn (set:=cPM)
   exact ⟨h.m,h.x,h.d,h.mz,h.xz,h.dz,h.bh,h.at_⟩
  show Gd s (if _ then _ else _)
  split
  ·exact h2
  ·have h3:=h2.dig
   exact ⟨h3.m,digT_dig _ _,h3.d,h3.mz,zcp _ _,h3.dz,h3.bh,h3.at_⟩
theorem formF_ok (s:ByteArray):Gd s (formF s):=by
 obtain ⟨h1,h2⟩:=form1_ok s
 unfold formF
 split
 ·exact formE_ok (formP_ok h1.sgn (by rw [sgn_m2]; exact h2))
 ·exact formS_ok h1
noncomputable def signed (f:Fm) (x:Rat):Rat:=if f.neg then -x else x
noncomputable def fracF (f:Fm):Option Rat:=if 600<(T (dval f.m.data.toList)).size∨600<(T (dval f.den.data.toList)).size then none else some (Rat.divInt (dval f.m.data.toList) (dval f.den.data.toList))
noncomputable def toldP (f:Fm) (r:Option Rat):ByteArray×ByteArray×Int×Int:=match r with
 | none=>(⟨#[]⟩,⟨#[]⟩,7,0)
 | some x=>((toldR (signed f x)).1,(toldR (signed f x)).2.1,(toldR (signed f x)).2.2,0)
noncomputable def parseF (s:ByteArray):ByteArray×ByteArray×Int×Int:=
 if 65536<s.size then (⟨#[]⟩,⟨#[]⟩,4,0)
 else if (formF s).end_ s=false then (⟨#[]⟩,⟨#[]⟩,3,((formF s).at_:Int))
 else if (formF s).fraction=true then (if dval (formF s).den.data.toList=0 then (⟨#[]⟩,⟨#[]⟩,8,((formF s).slash:Int)) else toldP (formF s) (fracF (formF s)))
 else toldP (formF s) (decF (formF s))
end Go.Proofs.ZP
end
section
namespace Go.Proofs.ZQ
open Go.RowKit Go.Proofs.ZW.Wa Go.Proofs.ZP
theorem parse_size (s:ByteArray) (w:World) (hs:65536<s.size) :
  Calls Tryz.prog 59 #[.string s] w fun e w'=>e = .returned (.tuple #[.agg #[.string ((⟨#[]⟩,⟨#[]⟩,4,0):ByteArray×ByteArray×Int×Int).1,.string ((⟨#[]⟩,⟨#[]⟩,4,0):ByteArray×ByteArray×Int×Int).2.1],.int .i64 ((⟨#[]⟩,⟨#[]⟩,4,0):ByteArray×ByteArray×Int×Int).2.2.1,.int .i64 ((⟨#[]⟩,⟨#[]⟩,4,0):ByteArray×ByteArray×Int×Int).2.2.2])∧Below w.heap.size w w':=by
 have hba:=zaa (Below.refl w.heap.size w) (.cells #[.string ⟨#[]⟩,.string ⟨#[]⟩] 23)
 have hbk:=zay w (.cells #[.string ⟨#[]⟩,.string ⟨#[]⟩] 23)
 have hsI:(65536:Int)<(s.size:Int):=by omega
 have HK:=Lib.hid hbk
 clear hbk
 go_enter Tryz.func59,Tryz.ntmps59
 go_wp2
 refine bodyPost_ret (za6 rfl _ _ w.heap.size 23 #[.string ⟨#[]⟩,.string ⟨#[]⟩] (0,0) _ rfl HK.out Tryz.underlying23 rfl (by kernel_rfl)) rfl ?_
 exact ⟨rfl,hba⟩
theorem parse_form (s:ByteArray) (w:World) (hs:s.size≤65536) (f:Fm) (hf:formF s=f) (he:f.end_ s=false) :
  Calls Tryz.prog 59 #[.string s] w fun e w'=>e = .returned (.tuple #[.agg #[.string ((⟨#[]⟩,⟨#[]⟩,3,(f.at_:Int)):ByteArray×ByteArray×Int×Int).1,.string ((⟨#[]⟩,⟨#[]⟩,3,(f.at_:Int)):ByteArray×ByteArray×Int×Int).2.1],.int .i64 ((⟨#[]⟩,⟨#[]⟩,3,(f.at_:Int)):ByteArray×ByteArray×Int×Int).2.2.1,.int .i64 ((⟨#[]⟩,⟨#[]⟩,3,(f.at_:Int)):ByteArray×ByteArray×Int×Int).2.2.2])∧Below w.heap.size w w':=by
 have hba:=zaa (Below.refl w.heap.size w) (.cells #[.string ⟨#[]⟩,.string ⟨#[]⟩] 23)
 have hbk:=zay w (.cells #[.string ⟨#[]⟩,.string ⟨#[]⟩] 23)
 have HF:∀ W,Calls Tryz.prog 143 #[.string s] W fun e w'=>∃ g,e = .returned (.tuple #[.pointer (some ⟨g,0,none⟩),.bool (f.end_ s)])∧FSt W w' g s f:=fun W=>by
  subst hf
  exact zbN s W hs
 have hsI:¬ (65536:Int)<(s.size:Int):=by omega
 rw [he] at HF
 clear hf he
 go_enter Tryz.func59,Tryz.ntmps59
 go_wp2_with fail
 generalize w.alloc (.cells #[.string ⟨#[]⟩,.string ⟨#[]⟩] 23)=W0 at *
 generalize hBe:w.heap.size=B0 at hbk ⊢
 have HBE:=Lib.hid (show w.heap.size≤B0 by omega)
 clear hBe
 refine (HF _).mono ?_
 rintro e w1 ⟨g,rfl,h1⟩
 have hB1:=bthen hba h1.below
 have hbk1:=(h1.below.block _ (zas hbk)).trans hbk
 have hgB:B0<g:=Nat.lt_of_lt_of_le (zas hbk) h1.ge
 clear HF hba hbk
 have c1:=h1.c 1 (.int .i64 f.at_) rfl
 generalize hA:f.at_=a at c1
 have HA:=Lib.hid hA
 clear hA h1
 have cB0:=(zaf hbk1 0).trans (show _=some (Value.string ⟨#[]⟩) from rfl)
 have cB1:=(zaf hbk1 1).trans (show _=some (Value.string ⟨#[]⟩) from rfl)
 have fB0:=zad hbk1 0
 have fB1:=zad hbk1 1
 have hs1:=zau hbk1 0 (.string ⟨#[]⟩)
 have hs2:=zau hs1 1 (.string ⟨#[]⟩)
 have HS2:=Lib.hid (hs2.trans (show _=some (Obj.cells #[.string ⟨#[]⟩,.string ⟨#[]⟩] 23 (0,0)) from rfl))
 have HBF:=Lib.hid (zag (zag (g:=B0) (j:=0) (v:=.string ⟨#[]⟩) hB1 HBE.out) (j:=1) (v:=.string ⟨#[]⟩) (g:=B0) HBE.out)
 clear hs1 hs2 hbk1
 go_wp2_with fail
 go_region
 all_goals go_wp2
 all_goals refine bodyPost_ret (za6 rfl _ _ B0 23 #[.string ⟨#[]⟩,.string ⟨#[]⟩] (0,0) _ rfl (show _=some (Obj.cells #[.string ⟨#[]⟩,.string ⟨#[]⟩] 23 (0,0)) from HS2.out) Tryz.underlying23 rfl (by kernel_rfl)) rfl ?_
 all_goals exact ⟨by rw [HA.out]; rfl,bthen HBF.out (zae _)⟩
theorem parse_zero (s:ByteArray) (w:World) (hs:s.size≤65536) (f:Fm) (hf:formF s=f) (hg:Gd s f) (he:f.end_ s=true) (hfr:f.fraction=true) (hB:dval f.den.data.toList=0) :
  Calls Tryz.prog 59 #[.string s] w fun e w'=>e = .returned (.tuple #[.agg #[.string ((⟨#[]⟩,⟨#[]⟩,8,(f.slash:Int)):ByteArray×ByteArray×Int×Int).1,.string ((⟨#[]⟩,⟨#[]⟩,8,(f.slash:Int)):ByteArray×ByteArray×Int×Int).2.1],.int .i64 ((⟨#[]⟩,⟨#[]⟩,8,(f.slash:Int)):ByteArray×ByteArray×Int×Int).2.2.1,.int .i64 ((⟨#[]⟩,⟨#[]⟩,8,(f.slash:Int)):ByteArray×ByteArray×Int×Int).2.2.2])∧Below w.heap.size w w':=by
 have hba:=zaa (Below.refl w.heap.size w) (.cells #[.string ⟨#[]⟩,.string ⟨#[]⟩] 23)
 have hbk:=zay w (.cells #[.string ⟨#[]⟩,.string ⟨#[]⟩] 23)
 have HF:∀ W,Calls Tryz.prog 143 #[.string s] W fun e w'=>∃ g,e = .returned (.tuple #[.pointer (some ⟨g,0,none⟩),.bool (f.end_ s)])∧FSt W w' g s f:=fun W=>by
  subst hf
  exact zbN s W hs
 have hsI:¬ (65536:Int)<(s.size:Int):=by omega
 rw [he] at HF
 have HM:=fun W=>(zaQ f.m W hg.m).mono (fun e w' ⟨h1,h2⟩=>(⟨h1,h2.symm⟩:_∧w'=W))
 have HD:=fun W=>(zaQ f.den W hg.d).mono (fun e w' ⟨h1,h2⟩=>(⟨h1,h2.symm⟩:_∧w'=W))
 clear hf he hg
 generalize dval f.m.data.toList=A at *
 generalize dval f.den.data.toList=B at *
 go_enter Tryz.func59,Tryz.ntmps59
 go_wp2_with fail
 generalize w.alloc (.cells #[.string ⟨#[]⟩,.string ⟨#[]⟩] 23)=W0 at *
 generalize hBe:w.heap.size=B0 at hbk ⊢
 have HBE:=Lib.hid (show w.heap.size≤B0 by omega)
 clear hBe
 refine (HF _).mono ?_
 rintro e w1 ⟨g,rfl,h1⟩
 have hB1:=bthen hba h1.below
 have hbk1:=(h1.below.block _ (zas hbk)).trans hbk
 have hgB:B0<g:=Nat.lt_of_lt_of_le (zas hbk) h1.ge
 clear HF hba hbk
 have c9:=h1.c 9 (.bool f.fraction) rfl
 rw [hfr] at c9
 have c4:=h1.c 4 (.string f.m) rfl
 have c8:=h1.c 8 (.string f.den) rfl
 have H1:=Lib.hid h1
 have HFR:=Lib.hid hfr
 clear h1 hfr
 go_wp2_with fail
 go_quiet ((first|(go_at_call 144; exact Calls.quiet_of_same (HM _))|(go_at_call 144; exact Calls.quiet_of_same (HD _))))
 generalize hqd:w1.drewN _=w2
 have hbd:Below w1.heap.size w1 w2:=by subst hqd; exact zar _ _
 have h2:FSt W0 w2 g s f:=by subst hqd; exact H1.out.drewN _
 have hB2:=bthen hB1 hbd
 have hbk2:=(hbd.block _ (zas hbk1)).trans hbk1
 clear hqd hbd hB1 hbk1 HM HD H1 c4 c8 c9
 subst hB
 have hz:=t0_eq
 have c10:=h2.c 10 (.int .i64 f.slash) rfl
 generalize hA:f.slash=a at c10
 have HA:=Lib.hid hA
 clear hA h2
 go_wp2_with fail
 have cB0:=(zaf hbk2 0).trans (show _=some (Value.string ⟨#[]⟩) from rfl)
 have cB1:=(zaf hbk2 1).trans (show _=some (Value.string ⟨#[]⟩) from rfl)
 have fB0:=zad hbk2 0
 have fB1:=zad hbk2 1
 have hs1:=zau hbk2 0 (.string ⟨#[]⟩)
 have hs2:=zau hs1 1 (.string ⟨#[]⟩)
 have HS2:=Lib.hid (hs2.trans (show _=some (Obj.cells #[.string ⟨#[]⟩,.string ⟨#[]⟩] 23 (0,0)) from rfl))
 have HBF:=Lib.hid (zag (zag (g:=B0) (j:=0) (v:=.string ⟨#[]⟩) hB2 HBE.out) (j:=1) (v:=.string ⟨#[]⟩) (g:=B0) HBE.out)
 clear hs1 hs2 hbk2
 go_wp2_with fail
 go_region
 all_goals go_wp2
 all_goals refine bodyPost_ret (za6 rfl _ _ B0 23 #[.string ⟨#[]⟩,.string ⟨#[]⟩] (0,0) _ rfl (show _=some (Obj.cells #[.string ⟨#[]⟩,.string ⟨#[]⟩] 23 (0,0)) from HS2.out) Tryz.underlying23 rfl (by kernel_rfl)) rfl ?_
 all_goals exact ⟨by rw [HA.out]; rfl,bthen HBF.out (zae _)⟩
theorem parse_large (s:ByteArray) (w:World) (hs:s.size≤65536) (f:Fm) (hf:formF s=f) (hg:Gd s f) (he:f.end_ s=true) (hfr:f.fraction=true) (hB:dval f.den.data.toList≠0) (hl:600<(T (dval f.m.data.toList)).size∨600<(T (dval f.den.data.toList)).size) :
  Calls Tryz.prog 59 #[.string s] w fun e w'=>e = .returned (.tuple #[.agg #[.string ((⟨#[]⟩,⟨#[]⟩,7,0):ByteArray×ByteArray×Int×Int).1,.string ((⟨#[]⟩,⟨#[]⟩,7,0):ByteArray×ByteArray×Int×Int).2.1],.int .i64 ((⟨#[]⟩,⟨#[]⟩,7,0):ByteArray×ByteArray×Int×Int).2.2.1,.int .i64 ((⟨#[]⟩,⟨#[]⟩,7,0):ByteArray×ByteArray×Int×Int).2.2.2])∧Below w.heap.size w w':=by
 have hba:=zaa (Below.refl w.heap.size w) (.cells #[.string ⟨#[]⟩,.string ⟨#[]⟩] 23)
 have hbk:=zay w (.cells #[.string ⟨#[]⟩,.string ⟨#[]⟩] 23)
 have HF:∀ W,Calls Tryz.prog 143 #[.string s] W fun e w'=>∃ g,e = .returned (.tuple #[.pointer (some ⟨g,0,none⟩),.bool (f.end_ s)])∧FSt W w' g s f:=fun W=>by
  subst hf
  exact zbN s W hs
 have hsI:¬ (65536:Int)<(s.size:Int):=by omega
 rw [he] at HF
 have HM:=fun W=>(zaQ f.m W hg.m).mono (fun e w' ⟨h1,h2⟩=>(⟨h1,h2.symm⟩:_∧w'=W))
 have HD:=fun W=>(zaQ f.den W hg.d).mono (fun e w' ⟨h1,h2⟩=>(⟨h1,h2.symm⟩:_∧w'=W))
 clear hf he hg
 generalize dval f.m.data.toList=A at *
 generalize dval f.den.data.toList=B at *
 go_enter Tryz.func59,Tryz.ntmps59
 go_wp2_with fail
 generalize w.alloc (.cells #[.string ⟨#[]⟩,.string ⟨#[]⟩] 23)=W0 at *
 generalize hBe:w.heap.size=B0 at hbk ⊢
 have HBE:=Lib.hid (show w.heap.size≤B0 by omega)
 clear hBe
 refine (HF _).mono ?_
 rintro e w1 ⟨g,rfl,h1⟩
 have hB1:=bthen hba h1.below
 have hbk1:=(h1.below.block _ (zas hbk)).trans hbk
 have hgB:B0<g:=Nat.lt_of_lt_of_le (zas hbk) h1.ge
 clear HF hba hbk
 have c9:=h1.c 9 (.bool f.fraction) rfl
 rw [hfr] at c9
 have c4:=h1.c 4 (.string f.m) rfl
 have c8:=h1.c 8 (.string f.den) rfl
 have H1:=Lib.hid h1
 have HFR:=Lib.hid hfr
 clear h1 hfr
 go_wp2_with fail
 go_quiet ((first|(go_at_call 144; exact Calls.quiet_of_same (HM _))|(go_at_call 144; exact Calls.quiet_of_same (HD _))))
 generalize hqd:w1.drewN _=w2
 have hbd:Below w1.heap.size w1 w2:=by subst hqd; exact zar _ _
 have h2:FSt W0 w2 g s f:=by subst hqd; exact H1.out.drewN _
 have hB2:=bthen hB1 hbd
 have hbk2:=(hbd.block _ (zas hbk1)).trans hbk1
 clear hqd hbd hB1 hbk1 HM HD H1 c4 c8 c9
 have hz:=t0_ne hB
 clear h2
 by_cases h6:600<(T A).size
 ·have h6I:(600:Int)<((T A).size:Int):=by omega
  have cB0:=(zaf hbk2 0).trans (show _=some (Value.string ⟨#[]⟩) from rfl)
  have cB1:=(zaf hbk2 1).trans (show _=some (Value.string ⟨#[]⟩) from rfl)
  have fB0:=zad hbk2 0
  have fB1:=zad hbk2 1
  have hs1:=zau hbk2 0 (.string ⟨#[]⟩)
  have hs2:=zau hs1 1 (.string ⟨#[]⟩)
  have HS2:=Lib.hid (hs2.trans (show _=some (Obj.cells #[.string ⟨#[]⟩,.string ⟨#[]⟩] 23 (0,0)) from rfl))
  have HBF:=Lib.hid (zag (zag (g:=B0) (j:=0) (v:=.string ⟨#[]⟩) hB2 HBE.out) (j:=1) (v:=.string ⟨#[]⟩) (g:=B0) HBE.out)
  clear hs1 hs2 hbk2
  go_wp2
  refine bodyPost_ret (za6 rfl _ _ B0 23 #[.string ⟨#[]⟩,.string ⟨#[]⟩] (0,0) _ rfl HS2.out Tryz.underlying23 rfl (by kernel_rfl)) rfl ?_
  exact ⟨rfl,HBF.out⟩
 ·have h6I:¬ (600:Int)<((T A).size:Int):=by omega
  have h7I:(600:Int)<((T B).size:Int):=by omega
  have cB0:=(zaf hbk2 0).trans (show _=some (Value.string ⟨#[]⟩) from rfl)
  have cB1:=(zaf hbk2 1).trans (show _=some (Value.string ⟨#[]⟩) from rfl)
  have fB0:=zad hbk2 0
  have fB1:=zad hbk2 1
  have hs1:=zau hbk2 0 (.string ⟨#[]⟩)
  have hs2:=zau hs1 1 (.string ⟨#[]⟩)
  have HS2:=Lib.hid (hs2.trans (show _=some (Obj.cells #[.string ⟨#[]⟩,.string ⟨#[]⟩] 23 (0,0)) from rfl))
  have HBF:=Lib.hid (zag (zag (g:=B0) (j:=0) (v:=.string ⟨#[]⟩) hB2 HBE.out) (j:=1) (v:=.string ⟨#[]⟩) (g:=B0) HBE.out)
  clear hs1 hs2 hbk2
  go_wp2
  refine bodyPost_ret (za6 rfl _ _ B0 23 #[.string ⟨#[]⟩,.string ⟨#[]⟩] (0,0) _ rfl HS2.out Tryz.underlying23 rfl (by kernel_rfl)) rfl ?_
  exact ⟨rfl,HBF.out⟩
theorem parse_frac (s:ByteArray) (w:World) (hs:s.size≤65536) (f:Fm) (hf:formF s=f) (hg:Gd s f) (he:f.end_ s=true) (hfr:f.fraction=true) (hB:dval f.den.data.toList≠0) (hl:¬ (600<(T (dval f.m.data.toList)).size∨600<(T (dval f.den.data.toList)).size)) :
  Calls Tryz.prog 59 #[.string s] w fun e w'=>e = .returned (.tuple #[.agg #[.string ((toldR (signed f (Rat.divInt (dval f.m.data.toList) (dval f.den.data.toList)))).1,(toldR (signed f (Rat.divInt (dval f.m.data.toList) (dval f.den.data.toList)))).2.1,(toldR (signed f (Rat.divInt (dval f.m.data.toList) (dval f.den.data.toList)))).2.2,(0:Int)).1,.string ((toldR (signed f (Rat.divInt (dval f.m.data.toList) (dval f.den.data.toList)))).1,(toldR (signed f (Rat.divInt (dval f.m.data.toList) (dval f.den.data.toList)))).2.1,(toldR (signed f (Rat.divInt (dval f.m.data.toList) (dval f.den.data.toList)))).2.2,(0:Int)).2.1],.int .i64 ((toldR (signed f (Rat.divInt (dval f.m.data.toList) (dval f.den.data.toList)))).1,(toldR (signed f (Rat.divInt (dval f.m.data.toList) (dval f.den.data.toList)))).2.1,(toldR (signed f (Rat.divInt (dval f.m.data.toList) (dval f.den.data.toList)))).2.2,(0:Int)).2.2.1,.int .i64 ((toldR (signed f (Rat.divInt (dval f.m.data.toList) (dval f.den.data.toList)))).1,(toldR (signed f (Rat.divInt (dval f.m.data.toList) (dval f.den.data.toList)))).2.1,(toldR (signed f (Rat.divInt (dval f.m.data.toList) (dval f.den.data.toList)))).2.2,(0:Int)).2.2.2])∧Below w.heap.size w w':=by
 have hba:=zaa (Below.refl w.heap.size w) (.cells #[.string ⟨#[]⟩,.string ⟨#[]⟩] 23)
 have hbk:=zay w (.cells #[.string ⟨#[]⟩,.string ⟨#[]⟩] 23)
 have HF:∀ W,Calls Tryz.prog 143 #[.string s] W fun e w'=>∃ g,e = .returned (.tuple #[.pointer (some ⟨g,0,none⟩),.bool (f.end_ s)])∧FSt W w' g s f:=fun W=>by
  subst hf
  exact zbN s W hs
 have hsI:¬ (65536:Int)<(s.size:Int):=by omega
 rw [he] at HF
 have HM:=fun W=>(zaQ f.m W hg.m).mono (fun e w' ⟨h1,h2⟩=>(⟨h1,h2.symm⟩:_∧w'=W))
 have HD:=fun W=>(zaQ f.den W hg.d).mono (fun e w' ⟨h1,h2⟩=>(⟨h1,h2.symm⟩:_∧w'=W))
 clear hf he hg
 generalize dval f.m.data.toList=A at *
 generalize dval f.den.data.toList=B at *
 go_enter Tryz.func59,Tryz.ntmps59
 go_wp2_with fail
 generalize w.alloc (.cells #[.string ⟨#[]⟩,.string ⟨#[]⟩] 23)=W0 at *
 generalize hBe:w.heap.size=B0 at hbk ⊢
 have HBE:=Lib.hid (show w.heap.size≤B0 by omega)
 clear hBe
 refine (HF _).mono ?_
 rintro e w1 ⟨g,rfl,h1⟩
 have hB1:=bthen hba h1.below
 have hbk1:=(h1.below.block _ (zas hbk)).trans hbk
 have hgB:B0<g:=Nat.lt_of_lt_of_le (zas hbk) h1.ge
 clear HF hba hbk
 have c9:=h1.c 9 (.bool f.fraction) rfl
 rw [hfr] at c9
 have c4:=h1.c 4 (.string f.m) rfl
 have c8:=h1.c 8 (.string f.den) rfl
 have H1:=Lib.hid h1
 have HFR:=Lib.hid hfr
 clear h1 hfr
 go_wp2_with fail
 go_quiet ((first|(go_at_call 144; exact Calls.quiet_of_same (HM _))|(go_at_call 144; exact Calls.quiet_of_same (HD _))))
 generalize hqd:w1.drewN _=w2
 have hbd:Below w1.heap.size w1 w2:=by subst hqd; exact zar _ _
 have h2:FSt W0 w2 g s f:=by subst hqd; exact H1.out.drewN _
 have hB2:=bthen hB1 hbd
 have hbk2:=(hbd.block _ (zas hbk1)).trans hbk1
 clear hqd hbd hB1 hbk1 HM HD H1 c4 c8 c9
 have hz:=t0_ne hB
 have h6:(T A).size≤600:=by omega
 have h7:(T B).size≤600:=by omega
 have h6I:¬ (600:Int)<((T A).size:Int):=by omega
 have h7I:¬ (600:Int)<((T B).size:Int):=by omega
 have HBA:=Lib.hid (bd600 ((zaz (by decide)).1 h6))
 have HBB:=Lib.hid (bd600 ((zaz (by decide)).1 h7))
 have hu105:=Tryz.underlying105
 have hu112:=Tryz.underlying112
 have hnew:=RatAt.new w2 112 (by decide)
 have hbz:=zaa (Below.refl w2.heap.size w2) (.cells #[.bool false,.slice none 0 0,.bool false,.slice none 0 0] 112)
 have hgl:=zas h2.blk
 have hBz:B0<w2.heap.size:=zas hbk2
 have hwz:w.heap.size≤w2.heap.size:=hB2.size
 clear hl
 go_wp2_with fail
 refine (zbh A _ (show _≤_ by omega)).mono ?_
 rintro e w3 ⟨D,rfl,hD,ha3,hb3⟩
 go_wp2_with fail
 refine (zbh B _ (show _≤_ by omega)).mono ?_
 rintro e w4 ⟨D2,rfl,hD2,hb4n,hb4⟩
 have hsz:=hbz.size
 have hsz3:=hb3.size
 have hl3:=ha3.lt
 go_wp2_with fail
 refine (zbi w2.heap.size D 0 D2 0 (A:Int) (B:Int) _ ((hnew.slot.below hb3).below hb4) (ha3.below hb4) hb4n (by omega) HBA.out HBB.out (by unfold big; omega)).mono ?_
 rintro e w5 ⟨rfl,hx5,hu5⟩
 have hbq:=bthen hbz (bthen hb3 hb4)
 have hB5:=hu5.new (bthen hB2 hbq) hwz
 have hbk5:=(hu5.other _ (zas ((hbq.block _ (zas hbk2)).trans hbk2)) (by omega)).trans ((hbq.block _ (zas hbk2)).trans hbk2)
 have hbg:=(hu5.other _ (zas ((hbq.block _ (zas h2.blk)).trans h2.blk)) (by omega)).trans ((hbq.block _ (zas h2.blk)).trans h2.blk)
 have c3:=(zaf hbg 3).trans (show _=some (Value.bool f.neg) from rfl)
 have HBX:=Lib.hid (Bdr.divInt (show (B:Int)≠0 by omega) HBA.out HBB.out)
 have HZ:=Lib.hid hwz
 have HZB:=Lib.hid hBz
 clear hnew hbz h2 ha3 hb3 hb4n hb4 hu5 hbq hbg hB2 hbk2
 cases hng:f.neg
 ·rw [hng] at c3
  have HV:=Lib.hid (show signed f (Rat.divInt (A:Int) (B:Int))=Rat.divInt (A:Int) (B:Int) by unfold signed; rw [hng]; rfl)
  clear hng
  go_wp2_with fail
  refine (zcl w2.heap.size (Rat.divInt (A:Int) (B:Int)) _ hx5 HBX.out (by unfold big; omega)).mono ?_
  rintro e wt ⟨rfl,hbt⟩
  have hBt:=bthen hB5 hbt
  have hbkt:=(hbt.block _ (zas hbk5)).trans hbk5
  clear hx5 hB5 hbk5 hbt
  clear c3
  generalize htt:toldR (Rat.divInt (A:Int) (B:Int))=tt
  have HTT:=Lib.hid (show toldR (signed f (Rat.divInt (A:Int) (B:Int)))=tt by rw [HV.out]; exact htt)
  clear htt HV
  have hbr:=zaa (Below.refl wt.heap.size wt) (.cells #[.string tt.1,.string tt.2.1] 23)
  have hBr:=bthen hBt hbr
  have hbkr:=(hbr.block _ (zas hbkt)).trans hbkt
  have hkr:=zay wt (.cells #[.string tt.1,.string tt.2.1] 23)
  have hne:wt.heap.size≠B0:=by have:=zas hbkt; omega
  clear hBt hbkt hbr hkr hne
  have cB0:=(zaf hbkr 0).trans (show _=some (Value.string ⟨#[]⟩) from rfl)
  have cB1:=(zaf hbkr 1).trans (show _=some (Value.string ⟨#[]⟩) from rfl)
  have fB0:=zad hbkr 0
  have fB1:=zad hbkr 1
  have hs1:=zau hbkr 0 (.string tt.1)
  have hs2:=zau hs1 1 (.string tt.2.1)
  have HS2:=Lib.hid (hs2.trans (show _=some (Obj.cells #[.string tt.1,.string tt.2.1] 23 (0,0)) from rfl))
  have HBF:=Lib.hid (zag (zag (g:=B0) (j:=0) (v:=.string tt.1) hBr HBE.out) (j:=1) (v:=.string tt.2.1) (g:=B0) HBE.out)
  clear hs1 hs2 hbkr
  go_wp2
  refine bodyPost_ret (za6 rfl _ _ B0 23 #[.string tt.1,.string tt.2.1] (0,0) _ rfl HS2.out Tryz.underlying23 rfl (by kernel_rfl)) rfl ?_
  exact ⟨by rw [HTT.out]; rfl,HBF.out⟩
 ·rw [hng] at c3
  have HV:=Lib.hid (show signed f (Rat.divInt (A:Int) (B:Int)) = -(Rat.divInt (A:Int) (B:Int)) by unfold signed; rw [hng]; rfl)
  clear hng
  go_wp2_with fail
  refine (rneg_calls w2.heap.size w2.heap.size (Rat.divInt (A:Int) (B:Int)) _ hx5.slot hx5 HBX.out (by unfold big; omega)).mono ?_
  rintro e wn ⟨rfl,hxn,hun⟩
  have hBn:=hun.new hB5 HZ.out
  have hbkn:=(hun.other _ (zas hbk5) (by have:=HZB.out; omega)).trans hbk5
  have hbn:=Lib.hid (HBX.out.neg)
  clear hx5 hB5 hbk5 hun c3
  go_wp2_with fail
  refine (zcl w2.heap.size (-(Rat.divInt (A:Int) (B:Int))) _ hxn hbn.out (by unfold big; omega)).mono ?_
  rintro e wt ⟨rfl,hbt⟩
  have hBt:=bthen hBn hbt
  have hbkt:=(hbt.block _ (zas hbkn)).trans hbkn
  clear hxn hBn hbkn hbt
  generalize htt:toldR (-(Rat.divInt (A:Int) (B:Int)))=tt
  have HTT:=Lib.hid (show toldR (signed f (Rat.divInt (A:Int) (B:Int)))=tt by rw [HV.out]; exact htt)
  clear htt HV
  have hbr:=zaa (Below.refl wt.heap.size wt) (.cells #[.string tt.1,.string tt.2.1] 23)
  have hBr:=bthen hBt hbr
  have hbkr:=(hbr.block _ (zas hbkt)).trans hbkt
  have hkr:=zay wt (.cells #[.string tt.1,.string tt.2.1] 23)
  have hne:wt.heap.size≠B0:=by have:=zas hbkt; omega
  clear hBt hbkt hbr hkr hne
  have cB0:=(zaf hbkr 0).trans (show _=some (Value.string ⟨#[]⟩) from rfl)
  have cB1:=(zaf hbkr 1).trans (show _=some (Value.string ⟨#[]⟩) from rfl)
  have fB0:=zad hbkr 0
  have fB1:=zad hbkr 1
  have hs1:=zau hbkr 0 (.string tt.1)
  have hs2:=zau hs1 1 (.string tt.2.1)
  have HS2:=Lib.hid (hs2.trans (show _=some (Obj.cells #[.string tt.1,.string tt.2.1] 23 (0,0)) from rfl))
  have HBF:=Lib.hid (zag (zag (g:=B0) (j:=0) (v:=.string tt.1) hBr HBE.out) (j:=1) (v:=.string tt.2.1) (g:=B0) HBE.out)
  clear hs1 hs2 hbkr
  go_wp2
  refine bodyPost_ret (za6 rfl _ _ B0 23 #[.string tt.1,.string tt.2.1] (0,0) _ rfl HS2.out Tryz.underlying23 rfl (by kernel_rfl)) rfl ?_
  exact ⟨by rw [HTT.out]; rfl,HBF.out⟩
theorem parse_dlarge (s:ByteArray) (w:World) (hs:s.size≤65536) (f:Fm) (hf:formF s=f) (hg:Gd s f) (he:f.end_ s=true) (hfr:f.fraction=false) (hd:decF f=none) :
  Calls Tryz.prog 59 #[.string s] w fun e w'=>e = .returned (.tuple #[.agg #[.string ((⟨#[]⟩,⟨#[]⟩,7,0):ByteArray×ByteArray×Int×Int).1,.string ((⟨#[]⟩,⟨#[]⟩,7,0):ByteArray×ByteArray×Int×Int).2.1],.int .i64 ((⟨#[]⟩,⟨#[]⟩,7,0):ByteArray×ByteArray×Int×Int).2.2.1,.int .i64 ((⟨#[]⟩,⟨#[]⟩,7,0):ByteArray×ByteArray×Int×Int).2.2.2])∧Below w.heap.size w w':=by
 have hba:=zaa (Below.refl w.heap.size w) (.cells #[.string ⟨#[]⟩,.string ⟨#[]⟩] 23)
 have hbk:=zay w (.cells #[.string ⟨#[]⟩,.string ⟨#[]⟩] 23)
 have HF:∀ W,Calls Tryz.prog 143 #[.string s] W fun e w'=>∃ g,e = .returned (.tuple #[.pointer (some ⟨g,0,none⟩),.bool (f.end_ s)])∧FSt W w' g s f:=fun W=>by
  subst hf
  exact zbN s W hs
 have hsI:¬ (65536:Int)<(s.size:Int):=by omega
 rw [he] at HF
 have HDC:=fun (W W':World) (g:Nat) (h:FSt W W' g s f)=>zdv W W' g s f h hg.m (by have:=hg.mz; omega) hg.x (by have:=hg.xz; omega) (by have:=hg.bh; omega)
 clear hf he hg
 go_enter Tryz.func59,Tryz.ntmps59
 go_wp2_with fail
 generalize w.alloc (.cells #[.string ⟨#[]⟩,.string ⟨#[]⟩] 23)=W0 at *
 generalize hBe:w.heap.size=B0 at hbk ⊢
 have HBE:=Lib.hid (show w.heap.size≤B0 by omega)
 clear hBe
 refine (HF _).mono ?_
 rintro e w1 ⟨g,rfl,h1⟩
 have hB1:=bthen hba h1.below
 have hbk1:=(h1.below.block _ (zas hbk)).trans hbk
 have hgB:B0<g:=Nat.lt_of_lt_of_le (zas hbk) h1.ge
 clear HF hba hbk
 have c9:=h1.c 9 (.bool f.fraction) rfl
 rw [hfr] at c9
 have c3a:=h1.c 3 (.bool f.neg) rfl
 have HDC1:=Lib.hid (HDC _ _ _ h1)
 have hgl:=zas h1.blk
 have hbg:=h1.blk
 clear h1 hfr HDC
 go_wp2_with fail
 refine HDC1.out.mono ?_
 rw [hd]
 rintro e w2 ⟨rfl,hb2⟩
 have hB2:=bthen hB1 hb2
 have hbk2:=(hb2.block _ (zas hbk1)).trans hbk1
 clear hB1 hbk1 hb2 hbg c3a c9 HDC1
 have cB0:=(zaf hbk2 0).trans (show _=some (Value.string ⟨#[]⟩) from rfl)
 have cB1:=(zaf hbk2 1).trans (show _=some (Value.string ⟨#[]⟩) from rfl)
 have fB0:=zad hbk2 0
 have fB1:=zad hbk2 1
 have hs1:=zau hbk2 0 (.string ⟨#[]⟩)
 have hs2:=zau hs1 1 (.string ⟨#[]⟩)
 have HS2:=Lib.hid (hs2.trans (show _=some (Obj.cells #[.string ⟨#[]⟩,.string ⟨#[]⟩] 23 (0,0)) from rfl))
 have HBF:=Lib.hid (zag (zag (g:=B0) (j:=0) (v:=.string ⟨#[]⟩) hB2 HBE.out) (j:=1) (v:=.string ⟨#[]⟩) (g:=B0) HBE.out)
 clear hs1 hs2 hbk2
 go_wp2
 refine bodyPost_ret (za6 rfl _ _ B0 23 #[.string ⟨#[]⟩,.string ⟨#[]⟩] (0,0) _ rfl HS2.out Tryz.underlying23 rfl (by kernel_rfl)) rfl ?_
 exact ⟨rfl,HBF.out⟩
theorem parse_dec (s:ByteArray) (w:World) (hs:s.size≤65536) (f:Fm) (hf:formF s=f) (hg:Gd s f) (he:f.end_ s=true) (hfr:f.fraction=false) (x:Rat) (hd:decF f=some x) :
  Calls Tryz.prog 59 #[.string s] w fun e w'=>e = .returned (.tuple #[.agg #[.string ((toldR (signed f x)).1,(toldR (signed f x)).2.1,(toldR (signed f x)).2.2,(0:Int)).1,.string ((toldR (signed f x)).1,(toldR (signed f x)).2.1,(toldR (signed f x)).2.2,(0:Int)).2.1],.int .i64 ((toldR (signed f x)).1,(toldR (signed f x)).2.1,(toldR (signed f x)).2.2,(0:Int)).2.2.1,.int .i64 ((toldR (signed f x)).1,(toldR (signed f x)).2.1,(toldR (signed f x)).2.2,(0:Int)).2.2.2])∧Below w.heap.size w w':=by
 have hba:=zaa (Below.refl w.heap.size w) (.cells #[.string ⟨#[]⟩,.string ⟨#[]⟩] 23)
 have hbk:=zay w (.cells #[.string ⟨#[]⟩,.string ⟨#[]⟩] 23)
 have HF:∀ W,Calls Tryz.prog 143 #[.string s] W fun e w'=>∃ g,e = .returned (.tuple #[.pointer (some ⟨g,0,none⟩),.bool (f.end_ s)])∧FSt W w' g s f:=fun W=>by
  subst hf
  exact zbN s W hs
 have hsI:¬ (65536:Int)<(s.size:Int):=by omega
 rw [he] at HF
 have HDC:=fun (W W':World) (g:Nat) (h:FSt W W' g s f)=>zdv W W' g s f h hg.m (by have:=hg.mz; omega) hg.x (by have:=hg.xz; omega) (by have:=hg.bh; omega)
 clear hf he hg
 go_enter Tryz.func59,Tryz.ntmps59
 go_wp2_with fail
 generalize w.alloc (.cells #[.string ⟨#[]⟩,.string ⟨#[]⟩] 23)=W0 at *
 generalize hBe:w.heap.size=B0 at hbk ⊢
 have HBE:=Lib.hid (show w.heap.size≤B0 by omega)
 clear hBe
 refine (HF _).mono ?_
 rintro e w1 ⟨g,rfl,h1⟩
 have hB1:=bthen hba h1.below
 have hbk1:=(h1.below.block _ (zas hbk)).trans hbk
 have hgB:B0<g:=Nat.lt_of_lt_of_le (zas hbk) h1.ge
 clear HF hba hbk
 have c9:=h1.c 9 (.bool f.fraction) rfl
 rw [hfr] at c9
 have c3a:=h1.c 3 (.bool f.neg) rfl
 have HDC1:=Lib.hid (HDC _ _ _ h1)
 have hgl:=zas h1.blk
 have hbg:=h1.blk
 clear h1 hfr HDC
 go_wp2_with fail
 refine HDC1.out.mono ?_
 rw [hd]
 rintro e w2 ⟨z,rfl,hz,hx2,hbd,hb2⟩
 have hB2:=bthen hB1 hb2
 have hbk2:=(hb2.block _ (zas hbk1)).trans hbk1
 have c3:=(zaf ((hb2.block _ hgl).trans hbg) 3).trans (show _=some (Value.bool f.neg) from rfl)
 have hB1s:=hB1.size
 have HBX:=Lib.hid hbd
 have HZ:=Lib.hid (show w.heap.size≤z by omega)
 have HZB:=Lib.hid (show B0<z by have:=zas hbk1; omega)
 have hu112:=Tryz.underlying112
 clear hB1 hbk1 hb2 hbg c3a c9 HDC1 hbd hB1s hd
 cases hng:f.neg
 ·rw [hng] at c3
  have HV:=Lib.hid (show signed f (x)=x by unfold signed; rw [hng]; rfl)
  clear hng
  go_wp2_with fail
  refine (zcl z (x) _ hx2 HBX.out (by unfold big; omega)).mono ?_
  rintro e wt ⟨rfl,hbt⟩
  have hBt:=bthen hB2 hbt
  have hbkt:=(hbt.block _ (zas hbk2)).trans hbk2
  clear hx2 hB2 hbk2 hbt
  clear c3
  generalize htt:toldR (x)=tt
  have HTT:=Lib.hid (show toldR (signed f (x))=tt by rw [HV.out]; exact htt)
  clear htt HV
  have hbr:=zaa (Below.refl wt.heap.size wt) (.cells #[.string tt.1,.string tt.2.1] 23)
  have hBr:=bthen hBt hbr
  have hbkr:=(hbr.block _ (zas hbkt)).trans hbkt
  have hkr:=zay wt (.cells #[.string tt.1,.string tt.2.1] 23)
  have hne:wt.heap.size≠B0:=by have:=zas hbkt; omega
  clear hBt hbkt hbr hkr hne
  have cB0:=(zaf hbkr 0).trans (show _=some (Value.string ⟨#[]⟩) from rfl)
  have cB1:=(zaf hbkr 1).trans (show _=some (Value.string ⟨#[]⟩) from rfl)
  have fB0:=zad hbkr 0
  have fB1:=zad hbkr 1
  have hs1:=zau hbkr 0 (.string tt.1)
  have hs2:=zau hs1 1 (.string tt.2.1)
  have HS2:=Lib.hid (hs2.trans (show _=some (Obj.cells #[.string tt.1,.string tt.2.1] 23 (0,0)) from rfl))
  have HBF:=Lib.hid (zag (zag (g:=B0) (j:=0) (v:=.string tt.1) hBr HBE.out) (j:=1) (v:=.string tt.2.1) (g:=B0) HBE.out)
  clear hs1 hs2 hbkr
  go_wp2
  refine bodyPost_ret (za6 rfl _ _ B0 23 #[.string tt.1,.string tt.2.1] (0,0) _ rfl HS2.out Tryz.underlying23 rfl (by kernel_rfl)) rfl ?_
  exact ⟨by rw [HTT.out]; rfl,HBF.out⟩
 ·rw [hng] at c3
  have HV:=Lib.hid (show signed f (x) = -(x) by unfold signed; rw [hng]; rfl)
  clear hng
  go_wp2_with fail
  refine (rneg_calls z z (x) _ hx2.slot hx2 HBX.out (by unfold big; omega)).mono ?_
  rintro e wn ⟨rfl,hxn,hun⟩
  have hBn:=hun.new hB2 HZ.out
  have hbkn:=(hun.other _ (zas hbk2) (by have:=HZB.out; omega)).trans hbk2
  have hbn:=Lib.hid (HBX.out.neg)
  clear hx2 hB2 hbk2 hun c3
  go_wp2_with fail
  refine (zcl z (-(x)) _ hxn hbn.out (by unfold big; omega)).mono ?_
  rintro e wt ⟨rfl,hbt⟩
  have hBt:=bthen hBn hbt
  have hbkt:=(hbt.block _ (zas hbkn)).trans hbkn
  clear hxn hBn hbkn hbt
  generalize htt:toldR (-(x))=tt
  have HTT:=Lib.hid (show toldR (signed f (x))=tt by rw [HV.out]; exact htt)
  clear htt HV
  have hbr:=zaa (Below.refl wt.heap.size wt) (.cells #[.string tt.1,.string tt.2.1] 23)
  have hBr:=bthen hBt hbr
  have hbkr:=(hbr.block _ (zas hbkt)).trans hbkt
  have hkr:=zay wt (.cells #[.string tt.1,.string tt.2.1] 23)
  have hne:wt.heap.size≠B0:=by have:=zas hbkt; omega
  clear hBt hbkt hbr hkr hne
  have cB0:=(zaf hbkr 0).trans (show _=some (Value.string ⟨#[]⟩) from rfl)
  have cB1:=(zaf hbkr 1).trans (show _=some (Value.string ⟨#[]⟩) from rfl)
  have fB0:=zad hbkr 0
  have fB1:=zad hbkr 1
  have hs1:=zau hbkr 0 (.string tt.1)
  have hs2:=zau hs1 1 (.string tt.2.1)
  have HS2:=Lib.hid (hs2.trans (show _=some (Obj.cells #[.string tt.1,.string tt.2.1] 23 (0,0)) from rfl))
  have HBF:=Lib.hid (zag (zag (g:=B0) (j:=0) (v:=.string tt.1) hBr HBE.out) (j:=1) (v:=.string tt.2.1) (g:=B0) HBE.out)
  clear hs1 hs2 hbkr
  go_wp2
  refine bodyPost_ret (za6 rfl _ _ B0 23 #[.string tt.1,.string tt.2.1] (0,0) _ rfl HS2.out Tryz.underlying23 rfl (by kernel_rfl)) rfl ?_
  exact ⟨by rw [HTT.out]; rfl,HBF.out⟩
noncomputable def rat_Parse.f (a0:ByteArray):Option (ByteArray×ByteArray×Int×Int):=some (parseF a0)
theorem parse_walk (s:ByteArray) (w:World) :
  Calls Tryz.prog 59 #[.string s] w fun e w'=>e = .returned (.tuple #[.agg #[.string (parseF s).1,.string (parseF s).2.1],.int .i64 (parseF s).2.2.1,.int .i64 (parseF s).2.2.2])∧Below w.heap.size w w':=by
 by_cases hs:65536<s.size
 ·rw [show parseF s=_ from if_pos hs]; exact parse_size s w hs
 ·have hs':s.size≤65536:=by omega
  have hg:=formF_ok s
  obtain ⟨f,hf⟩:∃ f,formF s=f:=⟨_,rfl⟩
  rw [hf] at hg
  unfold parseF
  rw [if_neg hs,hf]
  cases he:f.end_ s
  ·rw [if_pos rfl]; exact parse_form s w hs' f hf he
  ·rw [if_neg (by decide)]
   cases hfr:f.fraction
   ·rw [if_neg (by decide)]
    cases hd:decF f with
    | none=>exact parse_dlarge s w hs' f hf hg he hfr hd
    | some x=>exact parse_dec s w hs' f hf hg he hfr x hd
   ·rw [if_pos rfl]
    by_cases hB:dval f.den.data.toList=0
    ·rw [if_pos hB]; exact parse_zero s w hs' f hf hg he hfr hB
    ·rw [if_neg hB]
     by_cases hl:600<(T (dval f.m.data.toList)).size∨600<(T (dval f.den.data.toList)).size
     ·rw [show fracF f=none from if_pos hl]; exact parse_large s w hs' f hf hg he hfr hB hl
     ·rw [show fracF f=some _ from if_neg hl]; exact parse_frac s w hs' f hf hg he hfr hB hl
theorem rat_Parse.calls (a0:ByteArray) (r1 r2:ByteArray) (r3 r4:Int) (w:World) (h:rat_Parse.f a0=some (r1,r2,r3,r4)) :
  Calls Tryz.prog 59 #[.string a0] w fun e w'=>e = .returned (.tuple #[.agg #[.string r1,.string r2],.int .i64 r3,.int .i64 r4])∧Below w.heap.size w w':=by
 have h:=Option.some.inj h
 have:=parse_walk a0 w
 rw [h] at this
 exact this
end Go.Proofs.ZQ
end
