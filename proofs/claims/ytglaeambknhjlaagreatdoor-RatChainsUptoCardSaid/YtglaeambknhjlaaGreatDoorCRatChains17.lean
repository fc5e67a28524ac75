/- Texts under the proof, joined by a program (prune.py): QRatChn, QRefN, QBetween, QComp, Q214, Q218, Q219, Q215, QPure5, QRatSimple, QChainRef, QBackRef, QTexts. -/
import Derived.Test.YtglaeambknhjlaaGreatDoorCRatChains09
import Derived.Test.YtglaeambknhjlaaGreatDoorCRatChains16
import Derived.Test.YtglaeambknhjlaaGreatDoorCRatChains14
import Derived.Test.YtglaeambknhjlaaGreatDoorCRatChains15
import Derived.Test.YtglaeambknhjlaaGreatDoorCRatChains11
import Derived.Test.YtglaeambknhjlaaGreatDoorCRatChains13
import Derived.Deep.CutRange
import Derived.BigQuiet
set_option linter.unusedVariables false
set_option linter.unusedSimpArgs false
set_option exponentiation.threshold 20001
set_option maxHeartbeats 8000000
set_option maxRecDepth 100000
section
namespace Go.Proofs.ZQ
open Go.RowKit Go.Proofs.ZW.Wa Go.Proofs.ZP Go.Proofs.ZW.Wb Go.Proofs.ZW.Wc
structure CSt (w wr:World) (g:Nat) (x:Rat) (v:Value) (fin rest l:List Int):Prop where
 chn:Chn x rest
 all:fin++rest=l
 at_:RatAt wr g x
 row:RowT wr w.heap.size v (fin.map wtext)
 ne:some g≠v.ownBlock
 below:Below w.heap.size w wr
 bd:Bdr 2000 x
 ge:w.heap.size≤g
theorem chain_yes (a b:ByteArray) (x:Rat) (l:List Int) (w:World) (hx:RR a b x) (hc:Chn x l) :
  Calls Tryz.prog 45 #[.agg #[.string a,.string b]] w fun e w'=>∃ v0_:Value,e = .returned (.tuple #[v0_,.int .i64 0])∧RowT w' w.heap.size v0_ (l.map wtext)∧Below w.heap.size w w':=by
 have hu112:=Tryz.underlying112
 have hba:=zaa (Below.refl w.heap.size w) (.cells #[.string a,.string b] 23)
 have c0:(w.alloc (.cells #[.string a,.string b] 23)).cell? ⟨w.heap.size,0,none⟩=some (.string a):=(zaf (zay w (.cells #[.string a,.string b] 23)) 0).trans rfl
 have c1:(w.alloc (.cells #[.string a,.string b] 23)).cell? ⟨w.heap.size,1,none⟩=some (.string b):=(zaf (zay w (.cells #[.string a,.string b] 23)) 1).trans rfl
 have HR:=fun W=>read_yes x W hx.ln hx.ld
 rw [←hx.num,←hx.den] at HR
 have HR:=Lib.hid HR
 have HLL:=Lib.hid (show l.length≤4000 from Chn.len 2000 x l hc (by have:=hx.bd.2; unfold Bd at this; rwa [Int.natAbs_natCast] at this))
 have HX:=Lib.hid hx.bd
 have HC:=Lib.hid hc
 clear hx hc
 go_enter Tryz.func45,Tryz.ntmps45
 go_wp2_with fail
 go_step3
 go_wp2_with fail
 generalize w.alloc (.cells #[.string a,.string b] 23)=W0 at *
 have HBA:=Lib.hid hba
 clear hba c0 c1
 refine (HR.out _).mono ?_
 rintro e w1 ⟨g,rfl,hg,hx1,hb1⟩
 have hge:w.heap.size≤g:=by have:=HBA.out.size; omega
 have HS0:=Lib.hid (show CSt w w1 g x (.slice none 0 0) [] l l from ⟨HC.out,rfl,hx1,Kd.R_nil _ _ _ _ _,(by simp [Value.ownBlock]),bthen HBA.out hb1,HX.out,hge⟩)
 clear HR hg hx1 hb1 hge HBA HC HX
 go_wp2_with fail
 go_step3
 go_wp2_with fail
 go_loopw [5] (fun v wr=>∃ (x':Rat) (fin rest:List Int),Hid (CSt w wr g x' v fin rest l)) (fun v _=>5000-slen v)
 case atStart=>exact ⟨x,[],l,HS0⟩
 case round =>
  obtain ⟨x',fin,rest,HS⟩:=hrel
  have HLS:=Lib.hid (row_slen HS.out.row)
  have hg0:=HS.out.at_.lt
  have hge:=HS.out.ge
  have HQE:=Lib.hid (show (fin.map wtext).length≤4000 by
   have h1:=congrArg List.length HS.out.all
   have h2:=HLL.out
   rw [List.length_append] at h1
   rw [List.length_map]; omega)
  go_wp2_with fail
  refine (floor_calls g x' _ HS.out.at_ HS.out.bd (by decide)).mono ?_
  rintro e w2 ⟨D,rfl,hD,hq2,hb2⟩
  have hgD:g≠D:=by omega
  have HX2:=Lib.hid (HS.out.at_.below hb2)
  have HR2:=Lib.hid (zdg HS.out.row hb2)
  have HB2:=Lib.hid (bthen HS.out.below hb2)
  have HD2:=Lib.hid (row_ne HS.out.row hD)
  have HQ2:=Lib.hid hq2
  have hl2:=hq2.lt
  have hs2:=hb2.size
  clear hb2 hq2 hD
  go_wp2_with fail
  refine (string_new D 0 x'.floor _ HQ2.out (zdw HS.out.bd) (by decide)).mono ?_
  rintro e w3 ⟨rfl,hb3⟩
  have HX3:=Lib.hid (HX2.out.below hb3)
  have HR3:=Lib.hid (zdg HR2.out hb3)
  have HB:=Lib.hid (bthen HB2.out hb3)
  have HQ3:=Lib.hid (HQ2.out.below hb3)
  have hs3:=hb3.size
  clear hb3 HX2 HR2 HB2 HQ2
  go_wp2_with ((with_reducible refine zbd (b:=.append) (xs:=#[.tmp 13,.tmp 16]) rfl ?_); at_builtin; refine Kd.R_append Kd.string (w0:=w) w.heap.size rfl (.tmp 13) (.tmp 16) 34 9 (.string ⟨#[]⟩) 16 rfl Tryz.underlying34 info9 rfl (by decide) (by omega) u5 (fin.map wtext) (wtext x'.floor) [.string (wtext x'.floor)] (fun _=>True) (fun _=>False) rfl rfl ?aP (fun _ hk=>hk.elim) ?aF ?aO ?aB ?aS ?aL ?_; (case aP=>exact rfl); (case aB=>exact HB.out); (case aF=>exact (fun _ _=>trivial)); (case aO=>exact HR3.out); (case aS=>exact HB.out.size); (case aL=>have:=HQE.out; omega); intro v4 w4 ho hb hg hat)
  have hX4:=rat_grown HX3.out HR3.out hg (by have:=HS.out.ne; exact this)
  have hQ4:=int_grown HQ3.out HR3.out hg HD2.out
  have hl3:=HX3.out.lt
  have hN4:=ne_after HS.out.ne hl3 hat
  have hD4:=ne_after HD2.out (show D<w3.heap.size by omega) hat
  have hs4:=hg.size
  have HX4:=Lib.hid (hX4.below (zaa (Below.refl _ _) (.cells #[.bool false,.slice none 0 0,.bool false,.slice none 0 0] 112)))
  have HQ4:=Lib.hid (hQ4.below (zaa (Below.refl _ _) (.cells #[.bool false,.slice none 0 0,.bool false,.slice none 0 0] 112)))
  have HR4:=Lib.hid (zdg ho (zaa (Below.refl _ _) (.cells #[.bool false,.slice none 0 0,.bool false,.slice none 0 0] 112)))
  have HB4:=Lib.hid (zaa hb (.cells #[.bool false,.slice none 0 0,.bool false,.slice none 0 0] 112))
  have HN4:=Lib.hid hN4
  have HG4:=Lib.hid (row_ne ho (Nat.le_refl w4.heap.size))
  have hZ4:=(RatAt.new w4 112 (by decide)).slot
  have hw4:w.heap.size≤w4.heap.size:=hb.size
  clear hX4 hQ4 hN4 hD4 ho hb hg hat HX3 HR3 HQ3 HB HD2
  refine (zaL w4.heap.size D 0 x'.floor _ hZ4 HQ4.out (zdw HS.out.bd) (by decide)).mono ?_
  rintro e w5 ⟨rfl,hf5,hu5⟩
  have HX5:=Lib.hid (HX4.out.upd hu5 (by omega))
  have HR5:=Lib.hid (row_upd HR4.out hu5 HG4.out)
  have HB5:=Lib.hid (hu5.new HB4.out (by omega))
  clear hu5 HX4 HQ4 HR4 HB4 hZ4 HG4
  have HBF:=Lib.hid (Bdr.int (zdw HS.out.bd) (show 0<2000 by decide))
  go_wp2_with fail
  refine (rsub_calls g g w4.heap.size x' _ _ HX5.out.slot HX5.out hf5 HS.out.bd HBF.out (by decide)).mono ?_
  rintro e w6 ⟨rfl,hX6,hu6⟩
  have HX6:=Lib.hid hX6
  have HR6:=Lib.hid (row_upd HR5.out hu6 HN4.out)
  have HB6:=Lib.hid (hu6.new HB5.out hge)
  clear hX6 hu6 hf5 HX5 HR5 HB5
  go_wp2_with fail
  refine (rsign_calls g _ _ HX6.out).mono ?_
  rintro e w7 ⟨rfl,rfl⟩
  have hce:=HS.out.chn
  rcases hce with ⟨_,h1⟩|⟨_,rest,h1,hr⟩
  ·have hs:(x'-((x'.floor:Int):Rat)).num.sign=0:=by
    have e:x'-((x'.floor:Int):Rat)=0:=by rw [h1]; exact Rat.sub_self
    rw [e]; rfl
   have HL:=Lib.hid (show (fin.map wtext) ++ [wtext x'.floor]=l.map wtext by
    rw [←HS.out.all,List.map_append]; rfl)
   rw [hs]
   rw [HL.out] at HR6
   clear hs h1 HS HLS HQE HX6
   go_wp2
   rw [Exit.noGoto_ret]
   go_ret2
   exact ⟨_,rfl,HR6.out,HB6.out⟩
  ·obtain ⟨p0,p1,p2,p3,p4⟩:=Chn.parts h1
   have hs:¬ (x'-((x'.floor:Int):Rat)).num.sign=0:=fun e=>by
    have:=rpos.1 p0
    have:=Int.sign_eq_zero_iff_zero.1 e
    omega
   have hbd2:=HS.out.bd.2
   unfold Bd at hbd2
   have hbs:Bdr 2000 (x'-((x'.floor:Int):Rat)):=by
    obtain ⟨c1,c2⟩:=zcD x'
    exact ⟨by rw [c1]; unfold Bd; omega,by rw [c2]; exact HS.out.bd.2⟩
   have hne:x'-((x'.floor:Int):Rat)≠0:=fun e=>by rw [e] at p0; exact absurd p0 (by decide)
   have HBS:=Lib.hid hbs
   have HNE:=Lib.hid hne
   have HCR:=Lib.hid hr
   have HAL:=Lib.hid (show (fin ++ [x'.floor])++rest=l by rw [←HS.out.all,List.append_assoc]; rfl)
   generalize (x'-((x'.floor:Int):Rat)).num.sign=sg at hs ⊢
   clear p0 p1 p2 p3 p4 h1 hbs hne hbd2 hr
   go_wp2_with fail
   refine (inv_calls g g _ _ HX6.out.slot HX6.out HNE.out HBS.out (by decide)).mono ?_
   rintro e w8 ⟨rfl,hX8,hu8⟩
   have HS8:=Lib.hid (show CSt w w8 g (x'-((x'.floor:Int):Rat))⁻¹ v4 (fin ++ [x'.floor]) rest l from ⟨HCR.out,HAL.out,hX8,by rw [List.map_append]; exact row_upd HR6.out hu8 HN4.out,HN4.out,hu8.new HB6.out hge,HBS.out.inv HNE.out,hge⟩)
   have hM:slen v4=slen u5+1:=by
    have h1:=row_slen HR6.out
    rw [h1,HLS.out,List.length_append]; rfl
   have hQ:=HQE.out
   have hQ2:slen u5≤4000:=by rw [HLS.out]; exact hQ
   have HM:=Lib.hid hM
   have HM2:=Lib.hid hQ2
   clear hX8 hu8 hM hQ hQ2 HX6 HR6 HB6 HNE HBS HCR HAL hs
   go_wp2
   go_roundw
   case rel=>exact ⟨_,_,_,HS8⟩
   case measure =>
    have h1:=HM.out
    have h2:=HM2.out
    show 5000-slen v4<5000-slen u5
    omega
theorem chain_no (a b:ByteArray) (w:World) (h:¬ ∃ x,RR a b x) :
  Calls Tryz.prog 45 #[.agg #[.string a,.string b]] w fun e w'=>∃ v0_:Value,e = .returned (.tuple #[v0_,.int .i64 3])∧RowT w' w.heap.size v0_ []∧Below w.heap.size w w':=by
 have hba:=zaa (Below.refl w.heap.size w) (.cells #[.string a,.string b] 23)
 have c0:(w.alloc (.cells #[.string a,.string b] 23)).cell? ⟨w.heap.size,0,none⟩=some (.string a):=(zaf (zay w (.cells #[.string a,.string b] 23)) 0).trans rfl
 have c1:(w.alloc (.cells #[.string a,.string b] 23)).cell? ⟨w.heap.size,1,none⟩=some (.string b):=(zaf (zay w (.cells #[.string a,.string b] 23)) 1).trans rfl
 have HR:=Lib.hid (fun W=>read_no a b W h)
 clear h
 go_enter Tryz.func45,Tryz.ntmps45
 go_wp2_with fail
 go_step3
 go_wp2_with fail
 generalize w.alloc (.cells #[.string a,.string b] 23)=W0 at *
 have HBA:=Lib.hid hba
 clear hba c0 c1
 refine (HR.out _).mono ?_
 rintro e w1 ⟨rfl,hb1⟩
 have HB1:=Lib.hid (bthen HBA.out hb1)
 clear hb1
 go_wp2
 rw [Exit.noGoto_ret]
 go_ret2
 exact ⟨_,rfl,Kd.R_nil _ _ _ _ _,HB1.out⟩
noncomputable def chnR (x:Rat):List Int:=(Chn.exists _ x (Nat.le_refl _)).choose
theorem chnR_chn (x:Rat):Chn x (chnR x):=(Chn.exists _ x (Nat.le_refl _)).choose_spec
noncomputable def rat_Chain.f (a0_0 a0_1:ByteArray):Option (List ByteArray×Int):=by
 classical exact if h:∃ x,RR a0_0 a0_1 x then some ((chnR h.choose).map wtext,0) else some ([],3)
theorem zcu {a b:ByteArray} {x:Rat} (h:RR a b x):rat_Chain.f a b=some ((chnR x).map wtext,0):=by
 have hh:∃ x,RR a b x:=⟨x,h⟩
 unfold rat_Chain.f
 rw [dif_pos hh,←rr_one h hh.choose_spec]
theorem zcG {a b:ByteArray} (h:¬ ∃ x,RR a b x):rat_Chain.f a b=some ([],3):=by
 unfold rat_Chain.f
 rw [dif_neg h]
theorem rat_Chain.calls (a0_0 a0_1:ByteArray) (r1:List ByteArray) (r2:Int) (w:World) (h:rat_Chain.f a0_0 a0_1=some (r1,r2)) :
  Calls Tryz.prog 45 #[.agg #[.string a0_0,.string a0_1]] w fun e w'=>∃ v0_:Value,e = .returned (.tuple #[v0_,.int .i64 r2])∧Kd.R Kd.string 9 w' w.heap.size (fun _=>True) v0_ r1∧Below w.heap.size w w':=by
 by_cases hh:∃ x,RR a0_0 a0_1 x
 ·obtain ⟨x,hx⟩:=hh
  rw [zcu hx] at h
  obtain ⟨rfl,rfl⟩:=Prod.mk.inj (Option.some.inj h)
  exact chain_yes a0_0 a0_1 x (chnR x) w hx (chnR_chn x)
 ·rw [zcG hh] at h
  obtain ⟨rfl,rfl⟩:=Prod.mk.inj (Option.some.inj h)
  exact chain_no a0_0 a0_1 w hh
end Go.Proofs.ZQ
end
section
namespace Go.Proofs.ZQ
open Go.RowKit Go.Proofs.ZW.Wa Go.Proofs.ZP
theorem divide_n {a b:Nat} (ha:(T a).size≤1000000) (hb:(T b).size≤1000000) (h:0<b):Ans 128 #[.string (T a),.string (T b)] (.tuple #[.string (T (a/b)),.string (T (a%b))]):=fun W=>(c1_Divide.calls _ _ _ _ W (zdA (by omega) (by omega) h)).mono fun e w' h=>h
theorem plus_n {a b:Nat} (ha:(T a).size≤1000000) (hb:(T b).size≤1000000):Ans 129 #[.string (T a),.string (T b)] (.string (T (a+b))):=fun W=>(c1_Plus.calls _ _ _ W (Plus_T (by omega) (by omega))).mono fun e w' h=>h
theorem times_n {a b:Nat} (ha:(T a).size≤1000000) (hb:(T b).size≤1000000):Ans 131 #[.string (T a),.string (T b)] (.string (T (a*b))):=fun W=>(c1_Times.calls _ _ _ W (Times_T (by omega) (by omega))).mono fun e w' h=>h
theorem minus_n {a b:Nat} (ha:(T a).size≤1000000) (hb:(T b).size≤1000000) (h:b≤a):Ans 130 #[.string (T a),.string (T b)] (.string (T (a-b))):=fun W=>(c1_Minus.calls _ _ _ W (Minus_T (by omega) (by omega) h)).mono fun e w' h=>h
theorem T_b0 {n:Nat}:((T n).toList == ([48]:List UInt8))=true↔n=0:=by
 rw [beq_iff_eq,b48]
 exact ⟨fun h=>T_inj h,fun h=>by rw [h]⟩
theorem T_not0 {n:Nat} (h:n≠0):((T n).toList == ([48]:List UInt8))=false:=by
 cases hb:((T n).toList == ([48]:List UInt8))
 ·rfl
 ·exact absurd (T_b0.1 hb) h
theorem Simp.sz {k:Nat} {x y s:Rat} (h:Simp x y s) (h0:0<x) (hxy:x≤y) (hx:Sz k x):Sz k s:=by
 obtain ⟨h1,h2⟩:=h.least h0 hxy x Rat.le_refl hxy
 obtain ⟨h3,h4⟩:=h.between h0 hxy
 have h5:0<s.num:=rpos.1 (by grind)
 have h6:0<x.num:=rpos.1 h0
 exact ⟨Nat.le_trans (za0 (by omega)) hx.1,Nat.le_trans (za0 h2) hx.2⟩
end Go.Proofs.ZQ
end
section
namespace Go.Proofs.ZQ
open Go.RowKit Go.Proofs.ZW.Wa Go.Proofs.ZP Go.Proofs.ZW.Wb Go.Proofs.ZW.Wc
noncomputable def c2_Compare.f (a0_0:Bool) (a0_1:ByteArray) (a0_2:ByteArray) (a1_0:Bool) (a1_1:ByteArray) (a1_2:ByteArray):Option (Int):=(c2_Minus.f a1_0 a1_1 a1_2).bind fun bt821=>((c2_Plus.f a0_0 a0_1 a0_2 bt821.1 bt821.2.1 bt821.2.2).bind fun bt824=>(if bt824.2.1.toList=([48]:List UInt8) then (some 0) else (if bt824.1=true then (some (-1)) else (some 1))))
end Go.Proofs.ZQ
end
section
namespace Go.Proofs.ZQ
open Go.RowKit Go.Proofs.ZW.Wa Go.Proofs.ZW.Wb Go.Proofs.ZW.Wc
attribute [local go_sem] zaJ zaH zaQ zaP zaA zaz zaI zaG
noncomputable def c2_Cmp.j0:Nat→Bool→ByteArray→ByteArray→ByteArray→ByteArray→Option (Int×Int)
 | 0,_,_,_,_,_=>none
 | k+1,x13,x801000,x801001,x802000,x802001=>if x13=true then (some (0,3)) else ((c2_Read.f k x801000 x801001).bind fun bt804=>((c2_Read.f k x802000 x802001).bind fun bt807=>((c2_Compare.f bt804.1 bt804.2.1 bt804.2.2 bt807.1 bt807.2.1 bt807.2.2).bind fun t810=>(some (t810,0)))))
noncomputable def c2_Cmp.f (k:Nat) (a0_0:ByteArray) (a0_1:ByteArray) (a1_0:ByteArray) (a1_1:ByteArray):Option (Int×Int):=(c2_Right.f k a0_0 a0_1).bind fun t802=>(if t802=true then ((c2_Right.f k a1_0 a1_1).bind fun t803=>(c2_Cmp.j0 k (!t803) a0_0 a0_1 a1_0 a1_1)) else (c2_Cmp.j0 k true a0_0 a0_1 a1_0 a1_1))
noncomputable def c2_Down.j0:Nat→ByteArray→Bool→Bool→ByteArray→ByteArray→Option (Bool×ByteArray×ByteArray)
 | 0,_,_,_,_,_=>none
 | k+1,x3,x18,x817000,x817001,x817002=>if x18=true then ((c1_Plus.f x3 (⟨#[49]⟩:ByteArray)).bind fun t820=>((c2_Lowest.f x817000 t820 (⟨#[49]⟩:ByteArray)).bind fun bt821=>(some (bt821.1,bt821.2.1,bt821.2.2)))) else ((c2_Lowest.f x817000 x3 (⟨#[49]⟩:ByteArray)).bind fun bt824=>(some (bt824.1,bt824.2.1,bt824.2.2)))
noncomputable def c2_Down.f (k:Nat) (a0_0:Bool) (a0_1:ByteArray) (a0_2:ByteArray):Option (Bool×ByteArray×ByteArray):=(c1_Divide.f a0_1 a0_2).bind fun bt818=>(if a0_0=true then (c2_Down.j0 k bt818.1 (bt818.2.toList != ([48]:List UInt8)) a0_0 a0_1 a0_2) else (c2_Down.j0 k bt818.1 false a0_0 a0_1 a0_2))
noncomputable def c2_Floor.f (k:Nat) (a0_0:ByteArray) (a0_1:ByteArray):Option (ByteArray×ByteArray×Int):=(c2_Right.f k a0_0 a0_1).bind fun t829=>(if t829=true then ((c2_Read.f k a0_0 a0_1).bind fun bt830=>((c2_Down.f k bt830.1 bt830.2.1 bt830.2.2).bind fun bt833=>((c2_Told.f k bt833.1 bt833.2.1 bt833.2.2).bind fun bt836=>(some (bt836.1,bt836.2.1,bt836.2.2))))) else (some ((⟨#[]⟩:ByteArray),(⟨#[]⟩:ByteArray),3)))
noncomputable def rat_Sign.f (a0_0:ByteArray) (a0_1:ByteArray):Option (Int×Int):=(rat_Of.f 0).bind fun bt812=>((rat_Cmp.f a0_0 a0_1 bt812.1 bt812.2).bind fun bt814=>(some (bt814.1,bt814.2)))
end Go.Proofs.ZQ
end
section
namespace Go.Proofs.ZQ
open Go.RowKit Go.Proofs.ZW.Wa Go.Proofs.ZP
theorem floor_sgn (x:Rat):x.floor=sgn (decide (x.num<0)) (if x.num<0∧x.num.natAbs%x.den≠0 then x.num.natAbs/x.den+1 else x.num.natAbs/x.den):=by
 rw [Rat.floor_def]
 have hd:=x.den_pos
 by_cases h:x.num<0
 ·rw [decide_eq_true h]
  have e:x.num = -(x.num.natAbs:Int):=by omega
  have e3:∀ n:Nat,sgn true n = -(n:Int):=fun _=>rfl
  rw [e3]
  have h1:=Nat.div_add_mod x.num.natAbs x.den
  have h2:=Nat.mod_lt x.num.natAbs hd
  generalize hm:x.num.natAbs=m at *
  generalize hb:x.den=b at *
  by_cases hz:m%b=0
  ·rw [if_neg (fun k=>k.2 hz),e]
   refine (show (-(m:Int))/b=_∧(-(m:Int))%b=0 from (Int.ediv_emod_unique (by omega)).2 ⟨?_,by omega,by omega⟩).1
   rw [hz,Nat.add_zero] at h1
   have:((b*(m/b):Nat):Int)=m:=by rw [h1]
   rw [Int.natCast_mul] at this
   rw [Int.mul_neg]; omega
  ·rw [if_pos ⟨h,hz⟩,e]
   refine (show (-(m:Int))/b=_∧(-(m:Int))%b=(b:Int)-((m%b:Nat):Int) from (Int.ediv_emod_unique (by omega)).2 ⟨?_,by omega,by omega⟩).1
   have:((b*(m/b)+m%b:Nat):Int)=m:=by rw [h1]
   rw [Int.natCast_add,Int.natCast_mul] at this
   rw [Int.natCast_add,Int.mul_neg,Int.mul_add]
   omega
 ·rw [decide_eq_false h,if_neg (fun k=>h k.1)]
  have e:x.num=(x.num.natAbs:Int):=by omega
  have e3:∀ n:Nat,sgn false n=(n:Int):=fun _=>rfl
  rw [e3,Int.natCast_ediv]
  conv=>lhs; rw [e]
theorem Simp.bd {n:Nat} {x y s:Rat} (h:Simp x y s) (h0:0<x) (hxy:x≤y) (hx:Bdr n x):Bdr n s:=by
 obtain ⟨h1,h2⟩:=h.least h0 hxy x Rat.le_refl hxy
 obtain ⟨h3,h4⟩:=h.between h0 hxy
 have h5:0<s.num:=rpos.1 (by grind)
 have h6:0<x.num:=rpos.1 h0
 exact ⟨hx.1.le (by omega),hx.2.le (by omega)⟩
noncomputable def simp1 (x y:Rat):Rat:=by
 classical exact if h:0<x∧x≤y then (Simp.exists _ x y (Nat.le_refl _) h.1 h.2).choose else 0
noncomputable def simR (x y:Rat):Rat:=if x≤0∧0≤y then 0 else if 0<x then simp1 x y else -simp1 (-y) (-x)
noncomputable def rat_Simple.f (a0_0 a0_1 a1_0 a1_1:ByteArray):Option (ByteArray×ByteArray×Int):=twoF (fun x y=>if y<x then 9 else 0) (fun x y=>simR x y) a0_0 a0_1 a1_0 a1_1
end Go.Proofs.ZQ
end
section
namespace Go.Proofs.ZQ
open Go.RowKit Go.Proofs.ZW.Wa Go.Proofs.ZP Go.Proofs.ZW.Wb Go.Proofs.ZW.Wc
def rst (x:Rat):Nat:=(x.num-x.floor*x.den).toNat
theorem wtext_minus {x:Int} (h:x<0):(⟨#[45]⟩:ByteArray)++T x.natAbs=wtext x:=by
 have h1:=zax (zaM h)
 rw [h1]
 apply ByteArray.ext
 apply Array.toList_inj.1
 simp
theorem fl_pos {x:Rat} (h:¬ x.num<0):x.floor=((x.num.natAbs/x.den:Nat):Int)∧wtext x.floor=T (x.num.natAbs/x.den)∧rst x=x.num.natAbs%x.den:=by
 have h1:x.floor=((x.num.natAbs/x.den:Nat):Int):=by
  have h1:=floor_sgn x
  rw [decide_eq_false h,if_neg (fun e=>h e.1)] at h1
  exact h1
 refine ⟨h1,by rw [h1,zaF (Int.natCast_nonneg _),Int.natAbs_natCast],?_⟩
 unfold rst
 have h2:=Nat.div_add_mod x.num.natAbs x.den
 have h3:(((x.num.natAbs/x.den:Nat):Int)*(x.den:Int))=((x.den*(x.num.natAbs/x.den):Nat):Int):=by rw [Nat.mul_comm]; exact (Int.natCast_mul _ _).symm
 rw [h1,h3]
 omega
theorem fl_neg0 {x:Rat} (h:x.num<0) (h0:x.num.natAbs%x.den=0):(⟨#[45]⟩:ByteArray)++T (x.num.natAbs/x.den)=wtext x.floor∧rst x=x.num.natAbs%x.den:=by
 have h1:x.floor = -((x.num.natAbs/x.den:Nat):Int):=by
  have h1:=floor_sgn x
  rw [decide_eq_true h,if_neg (fun e=>e.2 h0)] at h1
  exact h1
 have h2:=Nat.div_add_mod x.num.natAbs x.den
 have h3:(-((x.num.natAbs/x.den:Nat):Int)*(x.den:Int)) = -((x.den*(x.num.natAbs/x.den):Nat):Int):=by rw [Nat.mul_comm,Int.neg_mul]; exact congrArg _ (Int.natCast_mul _ _).symm
 have h4:0<x.num.natAbs/x.den:=by
  apply Nat.pos_of_ne_zero
  intro e
  rw [e] at h2
  omega
 constructor
 ·have h5:x.floor.natAbs=x.num.natAbs/x.den:=by omega
  rw [←h5]
  exact wtext_minus (by omega)
 ·unfold rst
  rw [h1,h3]
  omega
theorem fl_neg1 {x:Rat} (h:x.num<0) (h0:x.num.natAbs%x.den≠0):(⟨#[45]⟩:ByteArray)++T (x.num.natAbs/x.den+1)=wtext x.floor∧rst x=x.den-x.num.natAbs%x.den:=by
 have h1:x.floor = -((x.num.natAbs/x.den+1:Nat):Int):=by
  have h1:=floor_sgn x
  rw [decide_eq_true h,if_pos ⟨h,h0⟩] at h1
  exact h1
 have h2:=Nat.div_add_mod x.num.natAbs x.den
 have h4:=Nat.mod_lt x.num.natAbs x.den_pos
 generalize x.num.natAbs/x.den=q at *
 generalize x.num.natAbs%x.den=r at *
 have h3:(-((q+1:Nat):Int)*(x.den:Int)) = -((x.den*q:Nat):Int)-x.den:=by
  have e:((q+1:Nat):Int)*(x.den:Int)=((x.den*q:Nat):Int)+x.den:=by rw [Int.natCast_add,Int.add_mul,Nat.mul_comm x.den,Int.natCast_mul]; congr 1; exact Int.one_mul _
  rw [Int.neg_mul,e]; omega
 constructor
 ·have h5:x.floor.natAbs=q+1:=by rw [h1,Int.natAbs_neg,Int.natAbs_natCast]
  rw [←h5]
  exact wtext_minus (by rw [h1]; omega)
 ·unfold rst
  rw [h1,h3]
  generalize x.den*q=m at *
  omega
theorem rst_lt (x:Rat):rst x<x.den:=by
 have h1:=Nat.mod_lt x.num.natAbs x.den_pos
 have h2:=x.den_pos
 by_cases h:x.num<0
 ·by_cases h0:x.num.natAbs%x.den=0
  ·rw [(fl_neg0 h h0).2]; exact h1
  ·rw [(fl_neg1 h h0).2]; omega
 ·rw [(fl_pos h).2.2]; exact h1
theorem rst_zero {x:Rat} (h:rst x=0):((x.floor:Int):Rat)=x:=by
 apply Decidable.byContradiction
 intro e
 obtain ⟨_,_,_,h4,_⟩:=Chn.parts e
 unfold rst at h
 omega
theorem rst_next {x:Rat} (h:rst x≠0):((x.floor:Int):Rat)≠x∧0<(x-((x.floor:Int):Rat))⁻¹∧(x-((x.floor:Int):Rat))⁻¹.num.natAbs=x.den∧(x-((x.floor:Int):Rat))⁻¹.den=rst x:=by
 have e:((x.floor:Int):Rat)≠x:=fun e=>h (by
  have h1:=zcD x
  unfold rst
  rw [←h1.1,e,Rat.sub_self]
  rfl)
 obtain ⟨h1,h2,h3,h4,h5⟩:=Chn.parts e
 refine ⟨e,Rat.inv_pos.2 h1,by rw [h2]; exact Int.natAbs_natCast _,?_⟩
 unfold rst
 omega
structure RSt (w wr:World) (z:Rat) (v:Value) (fin rest l:List Int):Prop where
 chn:Chn z (z.floor :: rest)
 all:(fin ++ [z.floor])++rest=l
 row:RowT wr w.heap.size v ((fin ++ [z.floor]).map wtext)
 below:Below w.heap.size w wr
 den:(T z.den).size≤600
theorem chain_ref (a b:ByteArray) (x:Rat) (l:List Int) (w:World) (hx:RR a b x) (hc:Chn x l) :
  Calls Tryz.prog 46 #[.agg #[.string a,.string b]] w fun e w'=>∃ v0_:Value,e = .returned (.tuple #[v0_,.int .i64 0])∧RowT w' w.heap.size v0_ (l.map wtext)∧Below w.heap.size w w':=by
 have HB0:=Lib.hid (show RbAt (w.alloc (.cells #[.string a,.string b] 23)) w.heap.size a b from RbAt.new w a b)
 have HA:=Lib.hid (zct hx)
 have HX:=Lib.hid (read_ans hx)
 have hsz:=rr_sz hx
 have HSZ:=Lib.hid hsz
 have HLL:=Lib.hid (show l.length≤4000 from Chn.len 2000 x l hc (by have:=hx.bd.2; unfold Bd at this; rwa [Int.natAbs_natCast] at this))
 have HC:=Lib.hid hc
 have HBA:=Lib.hid (zaa (Below.refl w.heap.size w) (.cells #[.string a,.string b] 23))
 have HD:=Lib.hid (divide_n (a:=x.num.natAbs) (b:=x.den) (by have:=hsz.1; omega) (by have:=hsz.2; omega) x.den_pos)
 unfold FrV at HX
 generalize hf0:(Fr x).1=f0 at HX
 have hf1:(Fr x).2.1=T x.num.natAbs:=rfl
 have hf2:(Fr x).2.2=T x.den:=rfl
 rw [hf1,hf2] at HX
 have HF0:=Lib.hid hf0
 clear hx hc hsz hf0 hf1 hf2
 go_enter Tryz.func46,Tryz.ntmps46
 have c0:=HB0.out.c0
 have c1:=HB0.out.c1
 go_wp2_with fail
 generalize w.alloc (.cells #[.string a,.string b] 23)=W0 at *
 refine (HA.out _).mono ?_
 rintro e w1 ⟨rfl,hb1⟩
 have HB1:=Lib.hid (HB0.out.below hb1)
 replace HBA:=Lib.hid (bthen HBA.out hb1)
 clear hb1 c0 c1
 have c0:=HB1.out.c0
 have c1:=HB1.out.c1
 go_wp2_with fail
 refine (HX.out _).mono ?_
 rintro e w2 ⟨rfl,hb2⟩
 replace HBA:=Lib.hid (bthen HBA.out hb2)
 have HF:=Lib.hid (FrAt.new w2 f0 (T x.num.natAbs) (T x.den))
 replace HBA:=Lib.hid (zaa HBA.out (.cells #[.bool f0,.string (T x.num.natAbs),.string (T x.den)] 66))
 clear hb2 c0 c1
 have c0:=HF.out.c0
 have c1:=HF.out.c1
 have c2:=HF.out.c2
 go_wp2_with fail
 go_quiet (fail)
 rename_i nq
 replace HF:=Lib.hid (HF.out.below (w':=(w2.alloc (.cells #[.bool f0,.string (T x.num.natAbs),.string (T x.den)] 66)).drewN nq) (by apply zab; exact Below.refl _ _))
 replace HBA:=Lib.hid (show Below w.heap.size w ((w2.alloc (.cells #[.bool f0,.string (T x.num.natAbs),.string (T x.den)] 66)).drewN nq) from by apply zab; exact HBA.out)
 generalize (w2.alloc (.cells #[.bool f0,.string (T x.num.natAbs),.string (T x.den)] 66)).drewN nq=w3 at *
 clear c0 c1 c2
 go_wp2_with fail
 refine (HD.out _).mono ?_
 rintro e w4 ⟨rfl,hb4⟩
 replace HF:=Lib.hid (HF.out.below hb4)
 replace HBA:=Lib.hid (bthen HBA.out hb4)
 clear hb4
 have c0:=HF.out.c0
 go_upto_if 26 with fail
 go_cut [7,8] from 36 (fun s7 s8 wx=>s7 = .string (wtext x.floor)∧s8 = .string (T (rst x))∧Below w.heap.size w wx)
 case first =>
  have HDN:=Lib.hid (show f0=decide (x.num<0) from HF0.out.symm)
  have hsz:=HSZ.out
  have hrl:=Nat.mod_lt x.num.natAbs x.den_pos
  have HP:=Lib.hid (fun h:¬ x.num<0=>fl_pos h)
  have HN0:=Lib.hid (fun (h:x.num<0) (h0:x.num.natAbs%x.den=0)=>fl_neg0 h h0)
  have HN1:=Lib.hid (fun (h:x.num<0) (h0:x.num.natAbs%x.den≠0)=>fl_neg1 h h0)
  have hq0:(T (x.num.natAbs/x.den)).size≤600:=(zar (by decide)).2 (Nat.lt_of_le_of_lt (Nat.div_le_self _ _) ((zar (by decide)).1 hsz.1))
  have hr0:(T (x.num.natAbs%x.den)).size≤600:=(zar (by decide)).2 (Nat.lt_of_lt_of_le hrl (Nat.le_of_lt ((zar (by decide)).1 hsz.2)))
  have hd0:(T x.den).size≤600:=hsz.2
  have HPL:=Lib.hid (plus_n (a:=x.num.natAbs/x.den) (b:=1) (by omega) (by rw [←T_1]; decide))
  rw [←T_1] at HPL
  have HMI:=Lib.hid (minus_n (a:=x.den) (b:=x.num.natAbs%x.den) (by omega) (by omega) (Nat.le_of_lt hrl))
  have hq1:(T (x.num.natAbs/x.den+1)).size≤601:=(zar (by decide)).2 (by
   have h1:=(zar (by decide)).1 hq0
   have h2:(1:Nat)≤10^600:=Nat.pos_of_ne_zero (by decide)
   rw [Nat.pow_succ]
   omega)
  clear hsz hr0 hd0 hrl
  cases f0
  ·have hn:¬ x.num<0:=of_decide_eq_false HDN.out.symm
   obtain ⟨_,h1,h2⟩:=HP.out hn
   go_wp2_with fail
   go_meet
   exact ⟨by rw [h1],by rw [h2],HBA.out⟩
  ·have hn:x.num<0:=of_decide_eq_true HDN.out.symm
   by_cases h0:x.num.natAbs%x.den=0
   ·have hb1:((T (x.num.natAbs%x.den)).toList == ([48]:List UInt8))=true:=T_b0.2 h0
    have hb2:((T (x.num.natAbs%x.den)).toList != ([48]:List UInt8))=false:=by rw [bne,hb1]; rfl
    have HE:=Lib.hid (HN0.out hn h0)
    clear h0 hn
    go_wp2_with fail
    go_meet
    exact ⟨by rw [HE.out.1],by rw [HE.out.2],HBA.out⟩
   ·have hb1:((T (x.num.natAbs%x.den)).toList == ([48]:List UInt8))=false:=T_not0 h0
    have hb2:((T (x.num.natAbs%x.den)).toList != ([48]:List UInt8))=true:=by rw [bne,hb1]; rfl
    have HE:=Lib.hid (HN1.out hn h0)
    clear h0 hn
    go_wp2_with fail
    refine (HPL.out _).mono ?_
    rintro e w5 ⟨rfl,hb5⟩
    replace HBA:=Lib.hid (bthen HBA.out hb5)
    clear hb5
    go_wp2_with fail
    refine (HMI.out _).mono ?_
    rintro e w6 ⟨rfl,hb6⟩
    replace HBA:=Lib.hid (bthen HBA.out hb6)
    clear hb6
    go_wp2_with fail
    go_meet
    exact ⟨by rw [HE.out.1],by rw [HE.out.2],HBA.out⟩
 case rest =>
  obtain ⟨rfl,rfl,hB7⟩:=hcut
  have HB7:=Lib.hid hB7
  have HRST:=Lib.hid (rst_lt x)
  have hsz:=HSZ.out.2
  have HSD:=Lib.hid hsz
  have hfl:∃ rest,l=x.floor :: rest:=by
   rcases HC.out with ⟨_,h1⟩|⟨_,rest,h1,hr⟩
   ·exact ⟨[],rfl⟩
   ·exact ⟨rest,rfl⟩
  obtain ⟨rest0,hl0⟩:=hfl
  have HL0:=Lib.hid hl0
  have HC0:=Lib.hid (show Chn x (x.floor :: rest0) by rw [←hl0]; exact HC.out)
  generalize hQT:wtext x.floor=QT at *
  have HQT:=Lib.hid hQT
  clear hB7 hl0 HD HF HBA c0 HSZ HC HF0 HX HA HB0 HB1 hQT hsz
  go_wp2_with ((with_reducible refine zaV (N:=37) rfl ?_); refine Kd.R_lit Kd.string _ 9 ?hg (N:=37) ?hd (xs:=([QT]:List ByteArray)) (inner:=[.string QT]) (ok:=fun _=>True) (okp:=fun _=>True) ?hr ?hp (fun _ hk=>hk) trivial (Below.refl _ _) (Nat.le_refl _) (by simp) ?_; (case hd=>rfl); (case hg=>rfl); (case hr=>first|(go_simp; done)|(go_simp; rfl)); (case hp=>exact (Reps.one (show Kd.M Kd.string _ _ _ QT [.string QT] from rfl) (Reps.none _ _))); intro v5 w5 ho5 hb5 hg5 hnew5; clear hg5 hnew5)
  have HS0:=Lib.hid (show RSt w w5 x v5 [] rest0 l from ⟨HC0.out,HL0.out.symm,by
   rw [List.nil_append,List.map_singleton,HQT.out]
   exact Kd.R_lower ho5 HB7.out.size,bthen HB7.out hb5,HSD.out⟩)
  clear HC0 HL0 HSD HB7 ho5 hb5 HRST
  go_loopw [5,6,7,8,9] (fun v5 v6 v7 v8 v9 wr=>∃ (z:Rat) (fin rest:List Int),v6 = .string (T z.den)∧v8 = .string (T (rst z))∧Hid (RSt w wr z v9 fin rest l)) (fun _ _ _ _ v9 _=>5000-slen v9)
  case atStart=>exact ⟨x,[],rest0,rfl,rfl,HS0⟩
  case round =>
   obtain ⟨z,fin,rest,rfl,rfl,HS⟩:=hrel
   by_cases hr:rst z=0
   ·have hb1:((T (rst z)).toList == ([48]:List UInt8))=true:=T_b0.2 hr
    have hb2:((T (rst z)).toList != ([48]:List UInt8))=false:=by rw [bne,hb1]; rfl
    have hfe:=rst_zero hr
    have HRW:=Lib.hid (show RowT wr w.heap.size u9 (l.map wtext) by
     have hc:=HS.out.chn
     have hal:=HS.out.all
     have:rest = []:=by
      rcases hc with ⟨_,h1⟩|⟨_,_,h1,hr⟩
      ·rfl
      ·exact absurd hfe h1
     rw [this,List.append_nil] at hal
     rw [←hal]
     exact HS.out.row)
    clear hr hfe
    go_wp2
    go_ret2
    exact ⟨_,rfl,HRW.out,HS.out.below⟩
   ·have hb1:((T (rst z)).toList == ([48]:List UInt8))=false:=T_not0 hr
    have hb2:((T (rst z)).toList != ([48]:List UInt8))=true:=by rw [bne,hb1]; rfl
    obtain ⟨hfe,hz0,hzn,hzd⟩:=rst_next hr
    have hnn:¬ (z-((z.floor:Int):Rat))⁻¹.num<0:=by have:=rpos.1 hz0; omega
    obtain ⟨_,p1,p2⟩:=fl_pos hnn
    rw [hzn,hzd] at p1 p2
    have hds:=HS.out.den
    have hrs:(T (rst z)).size≤600:=Nat.le_trans (za0 (Nat.le_of_lt (rst_lt z))) hds
    have HDV:=Lib.hid (divide_n (a:=z.den) (b:=rst z) (by omega) (by omega) (Nat.pos_of_ne_zero hr))
    obtain ⟨rest2,hc2,hre⟩:∃ rest2,Chn (z-((z.floor:Int):Rat))⁻¹ ((z-((z.floor:Int):Rat))⁻¹.floor :: rest2)∧rest=(z-((z.floor:Int):Rat))⁻¹.floor :: rest2:=by
     rcases HS.out.chn with ⟨_,h1⟩|⟨_,_,h1,hr⟩
     ·exact absurd h1 hfe
     ·rcases hr with ⟨_,h2⟩|⟨_,r3,h2,hr2⟩
      ·exact ⟨[],Chn.last _ h2,rfl⟩
      ·exact ⟨r3,Chn.more _ _ h2 hr2,rfl⟩
    have HDS:=Lib.hid hrs
    have HP1:=Lib.hid p1
    have HP2:=Lib.hid p2
    have HC2:=Lib.hid hc2
    have HRE:=Lib.hid hre
    have HZD:=Lib.hid hzd
    generalize (z-((z.floor:Int):Rat))⁻¹=z' at HP1 HP2 HC2 HRE HZD
    have HLS:=Lib.hid (row_slen HS.out.row)
    have HQE:=Lib.hid (show ((fin ++ [z.floor]).map wtext).length≤4000 by
     have h1:=congrArg List.length HS.out.all
     have h2:=HLL.out
     rw [List.length_append] at h1
     rw [List.length_map]; omega)
    clear hr hfe hz0 hzn hzd hnn p1 p2 hds hrs hc2 hre
    go_wp2_with fail
    refine (HDV.out _).mono ?_
    rintro e w3 ⟨rfl,hb3⟩
    have HB:=Lib.hid (bthen HS.out.below hb3)
    have HR3:=Lib.hid (zdg HS.out.row hb3)
    clear hb3
    generalize hTQ:T (z.den/rst z)=TQ
    have HTQ:=Lib.hid (HP1.out.trans hTQ)
    clear hTQ
    go_wp2_with ((with_reducible refine zbd (b:=.append) (xs:=#[.tmp 48,.tmp 50]) rfl ?_); at_builtin; refine Kd.R_append Kd.string (w0:=w) w.heap.size rfl (.tmp 48) (.tmp 50) 34 9 (.string ⟨#[]⟩) 16 rfl Tryz.underlying34 info9 rfl (by decide) (by omega) u9 ((fin ++ [z.floor]).map wtext) TQ [.string TQ] (fun _=>True) (fun _=>False) rfl rfl ?aP (fun _ hk=>hk.elim) ?aF ?aO ?aB ?aS ?aL ?_; (case aP=>exact rfl); (case aB=>exact HB.out); (case aF=>exact (fun _ _=>trivial)); (case aO=>exact HR3.out); (case aS=>exact HB.out.size); (case aL=>have:=HQE.out; omega); intro v4 w4 ho hb hg hat)
    have HRO:=Lib.hid (show RowT w4 w.heap.size v4 (((fin ++ [z.floor]) ++ [z'.floor]).map wtext) by
     rw [List.map_append,List.map_singleton,HTQ.out]
     exact ho)
    have HS4:=Lib.hid (show RSt w w4 z' v4 (fin ++ [z.floor]) rest2 l from ⟨HC2.out,by rw [←HS.out.all,HRE.out]; simp,HRO.out,hb,by rw [HZD.out]; exact HDS.out⟩)
    have hM:slen v4=slen u9+1:=by
     have h1:=row_slen HRO.out
     rw [h1,HLS.out,List.map_append,List.length_append]; rfl
    have hQ2:slen u9≤4000:=by rw [HLS.out]; exact HQE.out
    have HM:=Lib.hid hM
    have HM2:=Lib.hid hQ2
    clear hM hQ2 ho hb hg hat HR3 HB HS
    go_wp2
    go_roundw
    case rel=>exact ⟨z',fin ++ [z.floor],rest2,by rw [HZD.out],by rw [HP2.out],HS4⟩
    case measure =>
     have h1:=HM.out
     have h2:=HM2.out
     show 5000-slen v4<5000-slen u9
     omega
theorem chain_ref_no (a b:ByteArray) (w:World) (hx:¬ ∃ x,RR a b x) :
  Calls Tryz.prog 46 #[.agg #[.string a,.string b]] w fun e w'=>∃ v0_:Value,e = .returned (.tuple #[v0_,.int .i64 3])∧RowT w' w.heap.size v0_ []∧Below w.heap.size w w':=by
 have HB0:=Lib.hid (show RbAt (w.alloc (.cells #[.string a,.string b] 23)) w.heap.size a b from RbAt.new w a b)
 have HA:=Lib.hid (right_ans_no hx)
 have HBA:=Lib.hid (zaa (Below.refl w.heap.size w) (.cells #[.string a,.string b] 23))
 clear hx
 go_enter Tryz.func46,Tryz.ntmps46
 have c0:=HB0.out.c0
 have c1:=HB0.out.c1
 go_wp2_with fail
 generalize w.alloc (.cells #[.string a,.string b] 23)=W0 at *
 refine (HA.out _).mono ?_
 rintro e w1 ⟨rfl,hb1⟩
 replace HBA:=Lib.hid (bthen HBA.out hb1)
 clear hb1 c0 c1
 go_wp2
 go_ret2
 exact ⟨_,rfl,Kd.R_nil _ _ _ _ _,HBA.out⟩
theorem chain_same (a b:ByteArray) (r1:List ByteArray) (r2:Int) (w:World) (h:rat_Chain.f a b=some (r1,r2)) :
  Calls Tryz.prog 46 #[.agg #[.string a,.string b]] w fun e w'=>∃ v0_:Value,e = .returned (.tuple #[v0_,.int .i64 r2])∧RowT w' w.heap.size v0_ r1∧Below w.heap.size w w':=by
 by_cases hh:∃ x,RR a b x
 ·obtain ⟨x,hx⟩:=hh
  rw [zcu hx] at h
  obtain ⟨rfl,rfl⟩:=Prod.mk.inj (Option.some.inj h)
  exact chain_ref a b x (chnR x) w hx (chnR_chn x)
 ·rw [zcG hh] at h
  obtain ⟨rfl,rfl⟩:=Prod.mk.inj (Option.some.inj h)
  exact chain_ref_no a b w hh
theorem rr_int {t:ByteArray} {n:Int} (h:t=wtext n) (hn:n.natAbs<10^600):RR t ⟨#[49]⟩ (n:Rat):=⟨h,T_1,hn,Nat.lt_of_lt_of_le (show 1<10^1 by decide) (Nat.pow_le_pow_right (by decide) (by decide))⟩
theorem rr_whole {t:ByteArray} {x:Rat} (h:RR t ⟨#[49]⟩ x):Rt t 0 x.num:=⟨h.num,h.ln,fun e=>absurd e (by decide)⟩
theorem inv_nd {z:Rat} (h:0<z):z⁻¹.num=z.den∧z⁻¹.den=z.num.natAbs:=by
 have hn:=rpos.1 h
 have h1:z⁻¹=Rat.divInt z.den z.num:=zc4 z
 have h2:=zds (z.den:Int) z.num (by omega)
 rw [←h1] at h2
 have hg:Int.gcd (z.den:Int) z.num=1:=by
  rw [Int.gcd_comm]
  exact z.reduced
 rw [hg,Nat.div_one,Nat.div_one,Int.natAbs_natCast] at h2
 have e1:decide ((z.den:Int)<0)=false:=decide_eq_false (by omega)
 have e2:decide (z.num<0)=false:=decide_eq_false (by omega)
 rw [e1,e2] at h2
 exact ⟨h2.1,h2.2⟩
theorem add_nd (a:Int) {z:Rat} (h:0<z):((a:Rat)+z⁻¹).num=a*z.num+z.den∧((a:Rat)+z⁻¹).den=z.num.natAbs:=by
 obtain ⟨h1,h2⟩:=inv_nd h
 have hn:=rpos.1 h
 obtain ⟨h3,h4⟩:=zby z⁻¹ (-a)
 have e:z⁻¹-((-a:Int):Rat)=(a:Rat)+z⁻¹:=by rw [Rat.intCast_neg]; grind
 rw [e,h1] at h3
 rw [e,h2] at h4
 refine ⟨?_,h4⟩
 rw [h3,h2,Int.neg_mul,show ((z.num.natAbs:Nat):Int)=z.num by omega]
 omega
def zn (n:Nat) (ns:Nat→Int) (k:Nat):Nat:=(bck (suf n ns k)).num.natAbs
def zd (n:Nat) (ns:Nat→Int) (k:Nat):Nat:=(bck (suf n ns k)).den
theorem Bgd.pos {l:List ByteArray} {ns:Nat→Int} {k:Nat} (h:Bgd l ns l.length) (hk:0<k) (hl:k<l.length):0<bck (suf l.length ns k):=by
 have:=(bck_pos _ (fun e=>by have:=suf_len l.length ns k; rw [e] at this; simp at this; omega) (h.ones hk)).1
 exact Rat.not_le.1 fun e=>absurd (Rat.le_trans this e) (by decide)
theorem z_last {n:Nat} {ns:Nat→Int} {k:Nat} (h:k+1=n):zn n ns k=(ns k).natAbs∧zd n ns k=1:=by
 unfold zn zd
 rw [suf_last h]
 exact ⟨rfl,rfl⟩
theorem Bgd.step {l:List ByteArray} {ns:Nat→Int} {k:Nat} (h:Bgd l ns l.length) (hl:k+1<l.length) (hk:0<k):zn l.length ns k=(ns k).natAbs*zn l.length ns (k+1)+zd l.length ns (k+1)∧zd l.length ns k=zn l.length ns (k+1)∧zn l.length ns (k+1)≤zn l.length ns k:=by
 have hp:=h.pos (k:=k+1) (by omega) hl
 obtain ⟨h1,h2⟩:=add_nd (ns k) hp
 have h3:=(h.txt k (by omega) (by omega)).2.2 hk
 have hn:=rpos.1 hp
 unfold zn zd
 rw [bck_suf hl,h1,h2]
 have e:(ns k*(bck (suf l.length ns (k+1))).num+((bck (suf l.length ns (k+1))).den:Int)).natAbs=(ns k).natAbs*(bck (suf l.length ns (k+1))).num.natAbs+(bck (suf l.length ns (k+1))).den:=by
  apply Int.ofNat_inj.1
  rw [Int.natCast_add,Int.natCast_mul,Int.natAbs_of_nonneg (show 0≤ns k by omega),Int.natAbs_of_nonneg (Int.le_of_lt hn),Int.natAbs_of_nonneg]
  have:=Int.mul_nonneg (show 0≤ns k by omega) (Int.le_of_lt hn)
  omega
 rw [e]
 refine ⟨rfl,rfl,?_⟩
 have h4:1*(bck (suf l.length ns (k+1))).num.natAbs≤(ns k).natAbs*(bck (suf l.length ns (k+1))).num.natAbs:=Nat.mul_le_mul_right _ (by omega)
 omega
theorem Bgd.large {l:List ByteArray} {ns:Nat→Int} (h:Bgd l ns l.length):∀ k,0<k→k<l.length→zn l.length ns k≤zn l.length ns 1:=by
 intro k
 induction k with
 | zero=>intro h; omega
 | succ k ih =>
  intro _ hl
  by_cases hk:k=0
  ·subst hk; exact Nat.le_refl _
  ·exact Nat.le_trans (h.step hl (by omega)).2.2 (ih (by omega) (by omega))
theorem Bgd.seven {l:List ByteArray} {ns:Nat→Int} (h:Bgd l ns l.length) {k:Nat} (hk:0<k) (hl:k<l.length) (hb:¬ zn l.length ns k<10^600):toldR (bck (suf l.length ns 0))=(⟨#[]⟩,⟨#[]⟩,7):=by
 have h1:=h.large k hk hl
 have h2:=(add_nd (ns 0) (h.pos (k:=1) (by omega) (by omega))).2
 rw [←bck_suf (show 0+1<l.length by omega)] at h2
 refine if_neg (fun e=>hb ?_)
 have h3:=e.2
 rw [h2] at h3
 exact Nat.lt_of_le_of_lt h1 h3
theorem back_ref_yes (A0:Option Addr) (c0:Nat) (l:List ByteArray) (ns:Nat→Int) (hn:0<l.length) (hln:l.length≤100000000) (hg:Bgd l ns l.length) (tt:ByteArray×ByteArray×Int) (htt:toldR (bck (suf l.length ns 0))=tt) (w:World) (hr:Kd.C Kd.string w A0 l.length l) (hcp:l.length≤c0) :
  Calls Tryz.prog 48 #[.slice A0 l.length c0] w fun e w'=>e = .returned (.tuple #[.agg #[.string tt.1,.string tt.2.1],.int .i64 tt.2.2])∧Below w.heap.size w w':=by
 have HC:=Lib.hid hr
 have HR:=Lib.hid (RbAt.new w ⟨#[]⟩ ⟨#[]⟩)
 have HBA:=Lib.hid (zaa (Below.refl w.heap.size w) (.cells #[.string ⟨#[]⟩,.string ⟨#[]⟩] 23))
 have HG:=Lib.hid hg
 have HTT:=Lib.hid htt
 clear htt
 have HRR:=Lib.hid (rr_int (hg.txt 0 hn hn).1 (hg.txt 0 hn hn).2.1)
 have HRT:=Lib.hid (zct HRR.out)
 clear hr hg
 have hz0:((l.length:Int) == 0)=false:=beq_eq_false_iff_ne.2 (by omega)
 go_enter Tryz.func48,Tryz.ntmps48
 obtain ⟨ad,hA0,hcell⟩:=C_str (Kd.C_below HC.out HBA.out) hn
 have hcell0:(w.alloc (.cells #[.string ⟨#[]⟩,.string ⟨#[]⟩] 23)).cell? ad=some (.string (l[0]'hn)):=hcell
 have HA0:=Lib.hid hA0
 subst hA0
 go_wp2_with fail
 refine (HRT.out _).mono ?_
 rintro e w1 ⟨rfl,hb1⟩
 have HR1:=Lib.hid (HR.out.below hb1)
 have HBA1:=Lib.hid (bthen HBA.out hb1)
 clear hb1 hcell hcell0 HR HBA
 obtain ⟨i011,hi011,_,hsz11,_⟩:=info_parts info9
 obtain ⟨A11,hcut11,hA11,hC11⟩:=zbX (P:=Tryz.prog) Value.string (⟨#[]⟩:ByteArray) 34 9 .i64 Tryz.underlying34 hi011 hsz11 (some ad) c0 l 1 (by omega) (by omega) hcp
 have HC2:=Lib.hid (Kd.C_of_reads (h1:=fun _=>rfl) (hA11 _ (Kd.reads_of_C HC.out)))
 generalize htl:List.drop (Int.toNat 1) l=tl at hcut11 HC2
 have HTL:=Lib.hid (show tl.length+1=l.length by rw [←htl,List.length_drop]; show l.length-1+1=l.length; omega)
 have HTG:=Lib.hid (show ∀ j (h:j<tl.length) (h2:j+1<l.length),tl[j]=l[j+1] by
  intro j h h2
  subst htl
  rw [List.getElem_drop]
  congr 1
  exact Nat.add_comm 1 j)
 clear hA11 hC11 hi011 hsz11 htl
 go_wp2_with fail
 go_loopw [25] (fun v wr=>∃ i:Nat,i≤tl.length∧v = .int .i64 i∧Hid (RbAt wr w.heap.size ⟨#[]⟩ ⟨#[]⟩)∧Hid (Below w.heap.size w wr)) (fun v _=>tl.length-(intOf v).toNat)
 case atStart=>exact ⟨0,Nat.zero_le _,by go_num,HR1,HBA1⟩
 case round =>
  obtain ⟨i,hi,rfl,HR,HBA⟩:=hrel
  clear HR1 HBA1
  have htl:=HTL.out
  by_cases him:i<tl.length
  ·have hit:i<tl.length:=by omega
   obtain ⟨ad2,rfl,hcell⟩:=C_str (Kd.C_below HC2.out HBA.out) hit
   rw [HTG.out i hit (by omega)] at hcell
   obtain ⟨g1,g2,g3⟩:=HG.out.txt (i+1) (by omega) (by omega)
   have h1i:=g3 (by omega)
   have hwt:wtext (ns (i+1))=T (ns (i+1)).natAbs:=zaF (by omega)
   rw [g1,hwt] at hcell
   have hrb:rightB (T (ns (i+1)).natAbs)=true:=right_iff.2 ⟨_,rfl,g2⟩
   have HRG:=Lib.hid (show Ans 94 #[.string (T (ns (i+1)).natAbs)] (.bool (rightB (T (ns (i+1)).natAbs))) from fun W=>c1_Right.calls _ _ W rfl)
   rw [hrb] at HRG
   have hb1:((T (ns (i+1)).natAbs).toList == ([48]:List UInt8))=false:=T_not0 (by omega)
   have hi1:i<100000000:=by omega
   clear g1 g2 g3 h1i hwt hrb htl
   go_wp2_with fail
   refine (HRG.out _).mono ?_
   rintro e w2 ⟨rfl,hb2⟩
   have HR2:=Lib.hid (HR.out.below hb2)
   have HBA2:=Lib.hid (bthen HBA.out hb2)
   clear hb2 hcell HR HBA
   go_wp2
   go_roundw
   case rel=>exact ⟨i+1,by omega,by go_num,HR2,HBA2⟩
   case measure=>simp [intOf]; omega
  ·obtain rfl:i=tl.length:=by omega
   clear him htl hi
   obtain ⟨ad3,had3,hcell⟩:=C_str (Kd.C_below HC.out HBA.out) hn
   obtain rfl:ad=ad3:=Option.some.inj had3
   have hcell0:wr.cell? ad=some (.string (l[0]'hn)):=hcell
   have HX:=Lib.hid (read_ans HRR.out)
   unfold FrV at HX
   generalize hf0:(Fr (ns 0:Rat)).1=f0 at HX
   generalize hf1:(Fr (ns 0:Rat)).2.1=f1 at HX
   generalize hf2:(Fr (ns 0:Rat)).2.2=f2 at HX
   have HFE:=Lib.hid (show FrV (ns 0:Rat) = .agg #[.bool f0,.string f1,.string f2] by unfold FrV; rw [hf0,hf1,hf2])
   clear hf0 hf1 hf2
   go_wp2_with fail
   refine (HX.out _).mono ?_
   rintro e w3 ⟨rfl,hb3⟩
   have HR3:=Lib.hid ((HR.out.below hb3).alloc (.cells #[.bool f0,.string f1,.string f2] 66))
   have HBA3:=Lib.hid (zaa (bthen HBA.out hb3) (.cells #[.bool f0,.string f1,.string f2] 66))
   have HF3:=Lib.hid (FrAt.new w3 f0 f1 f2)
   clear hb3 HR HBA hcell hcell0
   by_cases hl1:l.length=1
   ·have hl1b:((l.length:Int) == 1)=true:=beq_iff_eq.2 (by omega)
    have HE0:=Lib.hid (show bck (suf l.length ns 0)=(ns 0:Rat) by rw [suf_last (by omega)]; rfl)
    have HT:=Lib.hid (told_ans (ns 0:Rat))
    rw [HFE.out,←HE0.out,HTT.out] at HT
    have c0:=HF3.out.c0
    have c1:=HF3.out.c1
    have c2:=HF3.out.c2
    clear hl1
    go_wp2_with fail
    refine (HT.out _).mono ?_
    rintro e w4 ⟨rfl,hb4⟩
    have HR4:=Lib.hid (HR3.out.below hb4)
    have HBA4:=Lib.hid (bthen HBA3.out hb4)
    clear hb4 c0 c1 c2
    obtain ⟨hF,hBF⟩:=rb_put HR4.out HBA4.out (Nat.le_refl _) tt.1 tt.2.1
    have cB0:=(HR4.out).c0
    have cB1:=(HR4.out).c1
    have fB0:=zae HR4.out 0
    have fB1:=zae HR4.out 1
    have HFF:=Lib.hid hF
    have HBF:=Lib.hid hBF
    clear hF hBF
    go_wp2
    refine bodyPost_ret (zaK rfl _ _ w.heap.size 23 #[.string tt.1,.string tt.2.1] (0,0) _ rfl HFF.out Tryz.underlying23 rfl (by kernel_rfl)) rfl ?_
    exact ⟨rfl,HBF.out⟩
   ·obtain ⟨m,hm⟩:∃ m,l.length=m+1:=⟨l.length-1,by omega⟩
    have hml:m<l.length:=by omega
    have hm1:0<m:=by omega
    have hl1b:((l.length:Int) == 1)=false:=beq_eq_false_iff_ne.2 (by omega)
    have hw1:IntKind.i64.wrap ((l.length:Int)-1)=(m:Int):=by
     rw [show ((l.length:Int)-1)=(m:Int) by omega,IntKind.wrap_i64]; omega
    have hw2:IntKind.i64.wrap ((l.length:Int)-2)=(m:Int)-1:=by
     rw [show ((l.length:Int)-2)=(m:Int)-1 by omega,IntKind.wrap_i64]; omega
    have hm2:(0:Int)≤(m:Int):=by omega
    obtain ⟨ad4,had4,hcell⟩:=C_str (Kd.C_below HC.out HBA3.out) hml
    obtain rfl:ad=ad4:=Option.some.inj had4
    obtain ⟨g1,g2,g3⟩:=HG.out.txt m hml hml
    have h1i:=g3 hm1
    rw [g1,zaF (show 0≤ns m by omega),←(z_last (ns:=ns) hm.symm).1] at hcell
    have HZ0:=Lib.hid (show zn l.length ns m<10^600∧zd l.length ns m<10^600 by
     rw [(z_last (ns:=ns) hm.symm).1,(z_last (ns:=ns) hm.symm).2]
     exact ⟨g2,Nat.lt_of_lt_of_le (show 1<10^1 by decide) (Nat.pow_le_pow_right (by decide) (by decide))⟩)
    have HZ1:=Lib.hid (show (⟨#[49]⟩:ByteArray)=T (zd l.length ns m) by rw [(z_last (ns:=ns) hm.symm).2]; exact T_1)
    have HM:=Lib.hid hm
    clear g1 g2 g3 h1i hl1 hm
    go_wp2
    go_loopw [7,8,9] (fun v7 v8 v9 wr=>∃ k:Nat,1≤k∧k≤m∧v7 = .string (T (zn l.length ns k))∧v8 = .string (T (zd l.length ns k))∧v9 = .int .i64 ((k:Int)-1)∧Hid (zn l.length ns k<10^600∧zd l.length ns k<10^600)∧Hid (RbAt wr w.heap.size ⟨#[]⟩ ⟨#[]⟩)∧Hid (FrAt wr w3.heap.size f0 f1 f2)∧Hid (Below w.heap.size w wr)) (fun _ _ v9 _=>(intOf v9+1).toNat)
    case atStart=>exact ⟨m,hm1,Nat.le_refl _,rfl,by rw [HZ1.out],by go_num,HZ0,HR3,HF3,HBA3⟩
    case round =>
     obtain ⟨k,hk1,hkm,rfl,rfl,rfl,HZ,HR,HF,HBA⟩:=hrel
     clear HZ0 HZ1 HR3 HF3 HBA3 hcell
     by_cases hk:k=1
     ·subst hk
      have hl2:=HM.out
      have HB0:=Lib.hid (bck_suf (n:=l.length) (ns:=ns) (k:=0) (by omega))
      have hp:=HG.out.pos (k:=1) (by omega) (by omega)
      obtain ⟨i1,i2⟩:=inv_nd hp
      have hfr:FrV (bck (suf l.length ns 1))⁻¹ = .agg #[.bool false,.string (T (zd l.length ns 1)),.string (T (zn l.length ns 1))]:=by
       unfold FrV Fr zd zn
       rw [i1,i2,Int.natAbs_natCast,decide_eq_false (by omega)]
      have hs1:Sz 600 (bck (suf l.length ns 1))⁻¹:=by
       unfold Sz
       rw [i1,i2,Int.natAbs_natCast]
       exact ⟨(zar (by decide)).2 HZ.out.2,(zar (by decide)).2 HZ.out.1⟩
      have hpl:=plus_ans (rr_sz HRR.out) hs1 (by decide)
      rw [hfr,HFE.out,←HB0.out] at hpl
      have HPL:=Lib.hid hpl
      have HT:=Lib.hid (told_ans (bck (suf l.length ns 0)))
      rw [HTT.out] at HT
      generalize FrV (bck (suf l.length ns 0))=fv at HPL HT
      have c0:=HF.out.c0
      have c1:=HF.out.c1
      have c2:=HF.out.c2
      rw [show (((1:Nat):Int)-1)=0 from rfl]
      clear hl2 hp i1 i2 hfr hs1 hpl hk1 hkm HZ
      go_wp2_with fail
      refine (HPL.out _).mono ?_
      rintro e w4 ⟨rfl,hb4⟩
      have HR4:=Lib.hid (HR.out.below hb4)
      have HBA4:=Lib.hid (bthen HBA.out hb4)
      clear hb4 c0 c1 c2
      go_wp2_with fail
      refine (HT.out _).mono ?_
      rintro e w5 ⟨rfl,hb5⟩
      have HR5:=Lib.hid (HR4.out.below hb5)
      have HBA5:=Lib.hid (bthen HBA4.out hb5)
      clear hb5 HR HBA HF
      obtain ⟨hF,hBF⟩:=rb_put HR5.out HBA5.out (Nat.le_refl _) tt.1 tt.2.1
      have cB0:=(HR5.out).c0
      have cB1:=(HR5.out).c1
      have fB0:=zae HR5.out 0
      have fB1:=zae HR5.out 1
      have HFF:=Lib.hid hF
      have HBF:=Lib.hid hBF
      clear hF hBF
      go_wp2
      refine bodyPost_ret (zaK rfl _ _ w.heap.size 23 #[.string tt.1,.string tt.2.1] (0,0) _ rfl HFF.out Tryz.underlying23 rfl (by kernel_rfl)) rfl ?_
      exact ⟨rfl,HBF.out⟩
     ·obtain ⟨q,rfl⟩:∃ q,k=q+1:=⟨k-1,by omega⟩
      have hl2:=HM.out
      have hq0:0<q:=by omega
      have hql:q<l.length:=by omega
      rw [show (((q+1:Nat):Int)-1)=(q:Int) by omega]
      have hq1:decide ((0:Int)<(q:Int))=true:=decide_eq_true (by omega)
      have hq2:(0:Int)≤(q:Int):=by omega
      obtain ⟨s1,s2,s3⟩:=HG.out.step (k:=q) (by omega) hq0
      obtain ⟨g1,g2,g3⟩:=HG.out.txt q hql hql
      have h1i:=g3 hq0
      obtain ⟨ad5,had5,hcell⟩:=C_str (Kd.C_below HC.out HBA.out) hql
      obtain rfl:ad=ad5:=Option.some.inj had5
      rw [g1,zaF (show 0≤ns q by omega)] at hcell
      have hz:=HZ.out
      have ha6:(T (ns q).natAbs).size≤600:=(zar (by decide)).2 g2
      have hb6:(T (zn l.length ns (q+1))).size≤600:=(zar (by decide)).2 hz.1
      have hd6:(T (zd l.length ns (q+1))).size≤600:=(zar (by decide)).2 hz.2
      have hm6:(T ((ns q).natAbs*zn l.length ns (q+1))).size≤1200:=(zar (by decide)).2 (by
       rw [show (1200:Nat)=600+600 from rfl,Nat.pow_add]
       exact Nat.mul_lt_mul'' g2 hz.1)
      have HTI:=Lib.hid (times_n (a:=(ns q).natAbs) (b:=zn l.length ns (q+1)) (by omega) (by omega))
      have hpl:=plus_n (a:=(ns q).natAbs*zn l.length ns (q+1)) (b:=zd l.length ns (q+1)) (by omega) (by omega)
      rw [←s1] at hpl
      have HPL:=Lib.hid hpl
      have HS2:=Lib.hid s2
      have HQM:=Lib.hid (show q≤m by omega)
      clear hl2 s1 s2 s3 g1 g2 g3 h1i ha6 hb6 hd6 hm6 hpl hk hk1 hkm
      go_wp2_with fail
      refine (HTI.out _).mono ?_
      rintro e w4 ⟨rfl,hb4⟩
      have HR4:=Lib.hid (HR.out.below hb4)
      have HF4:=Lib.hid (HF.out.below hb4)
      have HBA4:=Lib.hid (bthen HBA.out hb4)
      clear hb4 hcell
      go_wp2_with fail
      refine (HPL.out _).mono ?_
      rintro e w5 ⟨rfl,hb5⟩
      have HR5:=Lib.hid (HR4.out.below hb5)
      have HF5:=Lib.hid (HF4.out.below hb5)
      have HBA5:=Lib.hid (bthen HBA4.out hb5)
      clear hb5 HR HBA HF HR4 HF4 HBA4 HTI HPL
      by_cases hsm:zn l.length ns q<10^600
      ·have hsz:(T (zn l.length ns q)).size≤600:=(zar (by decide)).2 hsm
       have h1I:¬ (600:Int)<((T (zn l.length ns q)).size:Int):=by omega
       have HZ5:=Lib.hid (show zn l.length ns q<10^600∧zd l.length ns q<10^600 by rw [HS2.out]; exact ⟨hsm,hz.1⟩)
       clear hsm hz HZ
       go_wp2
       go_roundw
       case rel=>exact ⟨q,hq0,HQM.out,rfl,by rw [HS2.out],by go_num,HZ5,HR5,HF5,HBA5⟩
       case measure=>first|(simp [intOf]; done)|(simp [intOf]; omega)
      ·have hsz:¬ (T (zn l.length ns q)).size≤600:=fun e=>hsm ((zar (by decide)).1 e)
       have h1I:(600:Int)<((T (zn l.length ns q)).size:Int):=by omega
       have HSV:=Lib.hid (show (⟨#[]⟩,⟨#[]⟩,7)=tt from (HG.out.seven hq0 hql hsm).symm.trans HTT.out)
       clear hsm hz HZ hsz
       obtain ⟨hF,hBF⟩:=rb_put HR5.out HBA5.out (Nat.le_refl _) ⟨#[]⟩ ⟨#[]⟩
       have cB0:=(HR5.out).c0
       have cB1:=(HR5.out).c1
       have fB0:=zae HR5.out 0
       have fB1:=zae HR5.out 1
       have HFF:=Lib.hid hF
       have HBF:=Lib.hid hBF
       clear hF hBF
       go_wp2
       refine bodyPost_ret (zaK rfl _ _ w.heap.size 23 #[.string ⟨#[]⟩,.string ⟨#[]⟩] (0,0) _ rfl HFF.out Tryz.underlying23 rfl (by kernel_rfl)) rfl ?_
       exact ⟨by rw [←HSV.out]; rfl,HBF.out⟩
theorem back_ref_no (A0:Option Addr) (c0:Nat) (l:List ByteArray) (ns:Nat→Int) (p:Nat) (hml:p+1<l.length) (hln:l.length≤100000000) (hg:Bgd l ns (p+1)) (hbad:¬ ∃ x,Rt l[p+1] (p+1) x) (w:World) (hr:Kd.C Kd.string w A0 l.length l) (hcp:l.length≤c0) :
  Calls Tryz.prog 48 #[.slice A0 l.length c0] w fun e w'=>e = .returned (.tuple #[.agg #[.string ⟨#[]⟩,.string ⟨#[]⟩],.int .i64 3])∧Below w.heap.size w w':=by
 have HC:=Lib.hid hr
 have HR:=Lib.hid (RbAt.new w ⟨#[]⟩ ⟨#[]⟩)
 have HBA:=Lib.hid (zaa (Below.refl w.heap.size w) (.cells #[.string ⟨#[]⟩,.string ⟨#[]⟩] 23))
 have hn:0<l.length:=by omega
 have HG:=Lib.hid hg
 have HBD:=Lib.hid hbad
 have HRT:=Lib.hid (zct (rr_int (hg.txt 0 hn (by omega)).1 (hg.txt 0 hn (by omega)).2.1))
 clear hr hg hbad
 have hz0:((l.length:Int) == 0)=false:=beq_eq_false_iff_ne.2 (by omega)
 go_enter Tryz.func48,Tryz.ntmps48
 obtain ⟨ad,hA0,hcell⟩:=C_str (Kd.C_below HC.out HBA.out) hn
 have hcell0:(w.alloc (.cells #[.string ⟨#[]⟩,.string ⟨#[]⟩] 23)).cell? ad=some (.string (l[0]'hn)):=hcell
 have HA0:=Lib.hid hA0
 subst hA0
 go_wp2_with fail
 refine (HRT.out _).mono ?_
 rintro e w1 ⟨rfl,hb1⟩
 have HR1:=Lib.hid (HR.out.below hb1)
 have HBA1:=Lib.hid (bthen HBA.out hb1)
 clear hb1 hcell hcell0 HR HBA
 obtain ⟨i011,hi011,_,hsz11,_⟩:=info_parts info9
 obtain ⟨A11,hcut11,hA11,hC11⟩:=zbX (P:=Tryz.prog) Value.string (⟨#[]⟩:ByteArray) 34 9 .i64 Tryz.underlying34 hi011 hsz11 (some ad) c0 l 1 (by omega) (by omega) hcp
 have HC2:=Lib.hid (Kd.C_of_reads (h1:=fun _=>rfl) (hA11 _ (Kd.reads_of_C HC.out)))
 generalize htl:List.drop (Int.toNat 1) l=tl at hcut11 HC2
 have HTL:=Lib.hid (show tl.length+1=l.length by rw [←htl,List.length_drop]; show l.length-1+1=l.length; omega)
 have HTG:=Lib.hid (show ∀ j (h:j<tl.length) (h2:j+1<l.length),tl[j]=l[j+1] by
  intro j h h2
  subst htl
  rw [List.getElem_drop]
  congr 1
  exact Nat.add_comm 1 j)
 clear hA11 hC11 hi011 hsz11 htl
 go_wp2_with fail
 go_loopw [25] (fun v wr=>∃ i:Nat,i≤p∧v = .int .i64 i∧Hid (RbAt wr w.heap.size ⟨#[]⟩ ⟨#[]⟩)∧Hid (Below w.heap.size w wr)) (fun v _=>tl.length-(intOf v).toNat)
 case atStart=>exact ⟨0,Nat.zero_le _,by go_num,HR1,HBA1⟩
 case round =>
  obtain ⟨i,hi,rfl,HR,HBA⟩:=hrel
  clear HR1 HBA1
  have htl:=HTL.out
  by_cases him:i<p
  ·have hit:i<tl.length:=by omega
   obtain ⟨ad2,rfl,hcell⟩:=C_str (Kd.C_below HC2.out HBA.out) hit
   rw [HTG.out i hit (by omega)] at hcell
   obtain ⟨g1,g2,g3⟩:=HG.out.txt (i+1) (by omega) (by omega)
   have h1i:=g3 (by omega)
   have hwt:wtext (ns (i+1))=T (ns (i+1)).natAbs:=zaF (by omega)
   rw [g1,hwt] at hcell
   have hrb:rightB (T (ns (i+1)).natAbs)=true:=right_iff.2 ⟨_,rfl,g2⟩
   have HRG:=Lib.hid (show Ans 94 #[.string (T (ns (i+1)).natAbs)] (.bool (rightB (T (ns (i+1)).natAbs))) from fun W=>c1_Right.calls _ _ W rfl)
   rw [hrb] at HRG
   have hb1:((T (ns (i+1)).natAbs).toList == ([48]:List UInt8))=false:=T_not0 (by omega)
   have hi1:i<100000000:=by omega
   clear g1 g2 g3 h1i hwt hrb htl
   go_wp2_with fail
   refine (HRG.out _).mono ?_
   rintro e w2 ⟨rfl,hb2⟩
   have HR2:=Lib.hid (HR.out.below hb2)
   have HBA2:=Lib.hid (bthen HBA.out hb2)
   clear hb2 hcell HR HBA
   go_wp2
   go_roundw
   case rel=>exact ⟨i+1,by omega,by go_num,HR2,HBA2⟩
   case measure=>simp [intOf]; omega
  ·obtain rfl:i=p:=by omega
   have hit:i<tl.length:=by omega
   obtain ⟨ad2,rfl,hcell⟩:=C_str (Kd.C_below HC2.out HBA.out) hit
   rw [HTG.out i hit hml] at hcell
   have HRG:=Lib.hid (show Ans 94 #[.string l[i+1]] (.bool (rightB l[i+1])) from fun W=>c1_Right.calls _ _ W rfl)
   clear him htl hi
   rcases hrb:rightB l[i+1] with _|_
   ·rw [hrb] at HRG
    clear hrb
    go_wp2_with fail
    refine (HRG.out _).mono ?_
    rintro e w2 ⟨rfl,hb2⟩
    have HR2:=Lib.hid (HR.out.below hb2)
    have HBA2:=Lib.hid (bthen HBA.out hb2)
    clear hb2 hcell HR HBA
    obtain ⟨hF,hBF⟩:=rb_put HR2.out HBA2.out (Nat.le_refl _) ⟨#[]⟩ ⟨#[]⟩
    have cB0:=(HR2.out).c0
    have cB1:=(HR2.out).c1
    have fB0:=zae HR2.out 0
    have fB1:=zae HR2.out 1
    have HFF:=Lib.hid hF
    have HBF:=Lib.hid hBF
    clear hF hBF
    go_wp2
    refine bodyPost_ret (zaK rfl _ _ w.heap.size 23 #[.string ⟨#[]⟩,.string ⟨#[]⟩] (0,0) _ rfl HFF.out Tryz.underlying23 rfl (by kernel_rfl)) rfl ?_
    exact ⟨rfl,HBF.out⟩
   ·rw [hrb] at HRG
    obtain ⟨n,h1,h2⟩:=right_iff.1 hrb
    have h0:n=0:=by
     apply Decidable.byContradiction
     intro h
     exact HBD.out ⟨(n:Int),by rw [zaF (by omega),Int.natAbs_natCast]; exact h1,by rw [Int.natAbs_natCast]; exact h2,fun _=>by omega⟩
    subst h0
    rw [h1] at hcell HRG
    have hb1:((T 0).toList == ([48]:List UInt8))=true:=T_b0.2 rfl
    clear hrb h1 h2
    go_wp2_with fail
    refine (HRG.out _).mono ?_
    rintro e w2 ⟨rfl,hb2⟩
    have HR2:=Lib.hid (HR.out.below hb2)
    have HBA2:=Lib.hid (bthen HBA.out hb2)
    clear hb2 hcell HR HBA
    obtain ⟨hF,hBF⟩:=rb_put HR2.out HBA2.out (Nat.le_refl _) ⟨#[]⟩ ⟨#[]⟩
    have cB0:=(HR2.out).c0
    have cB1:=(HR2.out).c1
    have fB0:=zae HR2.out 0
    have fB1:=zae HR2.out 1
    have HFF:=Lib.hid hF
    have HBF:=Lib.hid hBF
    clear hF hBF
    go_wp2
    refine bodyPost_ret (zaK rfl _ _ w.heap.size 23 #[.string ⟨#[]⟩,.string ⟨#[]⟩] (0,0) _ rfl HFF.out Tryz.underlying23 rfl (by kernel_rfl)) rfl ?_
    exact ⟨rfl,HBF.out⟩
theorem back_ref_no0 (A0:Option Addr) (c0:Nat) (l:List ByteArray) (hn:0<l.length) (hln:l.length≤100000000) (hbad:¬ ∃ x,Rt l[0] 0 x) (w:World) (hr:Kd.C Kd.string w A0 l.length l) (hcp:l.length≤c0) :
  Calls Tryz.prog 48 #[.slice A0 l.length c0] w fun e w'=>e = .returned (.tuple #[.agg #[.string ⟨#[]⟩,.string ⟨#[]⟩],.int .i64 3])∧Below w.heap.size w w':=by
 have HC:=Lib.hid hr
 have HR:=Lib.hid (RbAt.new w ⟨#[]⟩ ⟨#[]⟩)
 have HBA:=Lib.hid (zaa (Below.refl w.heap.size w) (.cells #[.string ⟨#[]⟩,.string ⟨#[]⟩] 23))
 have HRT:=Lib.hid (right_ans_no (a:=l[0]) (b:=⟨#[49]⟩) (fun ⟨x,hx⟩=>hbad ⟨x.num,rr_whole hx⟩))
 clear hr hbad
 have hz0:((l.length:Int) == 0)=false:=beq_eq_false_iff_ne.2 (by omega)
 go_enter Tryz.func48,Tryz.ntmps48
 obtain ⟨ad,hA0,hcell⟩:=C_str (Kd.C_below HC.out HBA.out) hn
 have hcell0:(w.alloc (.cells #[.string ⟨#[]⟩,.string ⟨#[]⟩] 23)).cell? ad=some (.string (l[0]'hn)):=hcell
 have HA0:=Lib.hid hA0
 subst hA0
 go_wp2_with fail
 refine (HRT.out _).mono ?_
 rintro e w1 ⟨rfl,hb1⟩
 have HR1:=Lib.hid (HR.out.below hb1)
 have HBA1:=Lib.hid (bthen HBA.out hb1)
 clear hb1 hcell hcell0 HR HBA
 obtain ⟨hF,hBF⟩:=rb_put HR1.out HBA1.out (Nat.le_refl _) ⟨#[]⟩ ⟨#[]⟩
 have cB0:=(HR1.out).c0
 have cB1:=(HR1.out).c1
 have fB0:=zae HR1.out 0
 have fB1:=zae HR1.out 1
 have HFF:=Lib.hid hF
 have HBF:=Lib.hid hBF
 clear hF hBF
 go_wp2
 refine bodyPost_ret (zaK rfl _ _ w.heap.size 23 #[.string ⟨#[]⟩,.string ⟨#[]⟩] (0,0) _ rfl HFF.out Tryz.underlying23 rfl (by kernel_rfl)) rfl ?_
 exact ⟨rfl,HBF.out⟩
theorem back_ref_nil (A0:Option Addr) (c0:Nat) (w:World) :
  Calls Tryz.prog 48 #[.slice A0 0 c0] w fun e w'=>e = .returned (.tuple #[.agg #[.string ⟨#[]⟩,.string ⟨#[]⟩],.int .i64 3])∧Below w.heap.size w w':=by
 have fr:=RbAt.new w ⟨#[]⟩ ⟨#[]⟩
 have HBF:=Lib.hid (zaa (Below.refl w.heap.size w) (.cells #[.string ⟨#[]⟩,.string ⟨#[]⟩] 23))
 have cB0:=fr.c0
 have cB1:=fr.c1
 have fB0:=zae fr 0
 have fB1:=zae fr 1
 have HFF:=Lib.hid fr
 clear fr
 go_enter Tryz.func48,Tryz.ntmps48
 go_wp2
 refine bodyPost_ret (zaK rfl _ _ w.heap.size 23 #[.string ⟨#[]⟩,.string ⟨#[]⟩] (0,0) _ rfl HFF.out Tryz.underlying23 rfl (by kernel_rfl)) rfl ?_
 exact ⟨rfl,HBF.out⟩
theorem back_same (A1:Option Addr) (c1:Nat) (l1:List ByteArray) (r1 r2:ByteArray) (r3:Int) (w:World) (hr0:Kd.C Kd.string w A1 l1.length l1) (hc0:l1.length≤c1) (h:rat_Back.f l1=some (r1,r2,r3)) :
  Calls Tryz.prog 48 #[.slice A1 l1.length c1] w fun e w'=>e = .returned (.tuple #[.agg #[.string r1,.string r2],.int .i64 r3])∧Below w.heap.size w w':=by
 by_cases hl:l1.length≤100000000
 ·by_cases hg:∃ ns,0<l1.length∧Bgd l1 ns l1.length
  ·obtain ⟨ns,hn,hg⟩:=hg
   rw [zcH hl hn hg] at h
   exact back_ref_yes A1 c1 l1 ns hn hl hg (r1,r2,r3) (Option.some.inj h) w hr0 hc0
  ·rw [zc3 hl hg] at h
   obtain ⟨rfl,h9⟩:=Prod.mk.inj (Option.some.inj h)
   obtain ⟨rfl,rfl⟩:=Prod.mk.inj h9
   by_cases hn:0<l1.length
   ·rcases gd_or l1 l1.length (Nat.le_refl _) with ⟨ns,hk⟩|⟨m,hm,ns,hk,hb⟩
    ·exact absurd ⟨ns,hn,hk⟩ hg
    ·rcases m with _|p
     ·exact back_ref_no0 A1 c1 l1 hn hl hb w hr0 hc0
     ·exact back_ref_no A1 c1 l1 ns p hm hl hk hb w hr0 hc0
   ·have e:l1.length=0:=by omega
    rw [e]
    exact back_ref_nil A1 c1 w
 ·unfold rat_Back.f at h
  rw [if_neg hl] at h
  exact absurd h (by simp)
theorem texts_same (A0:Option Addr) (c0:Nat) (A1:Option Addr) (c1:Nat) (l:List ByteArray) (w:World) (h0:Kd.C Kd.string w A0 l.length l) (h1:Kd.C Kd.string w A1 l.length l) (hl:l.length≤100000000) :
  Calls Tryz.prog 49 #[.slice A0 l.length c0,.slice A1 l.length c1] w fun e w'=>e = .returned (.bool true)∧Below w.heap.size w w':=by
 have H0:=Lib.hid h0
 have H1:=Lib.hid h1
 have HB:=Lib.hid (Below.refl w.heap.size w)
 clear h0 h1
 go_enter Tryz.func49,Tryz.ntmps49
 go_wp2
 go_loopw [13] (fun v wr=>∃ i:Nat,i≤l.length∧v = .int .i64 i∧Hid (Below w.heap.size w wr)) (fun v _=>l.length-(intOf v).toNat)
 case atStart=>exact ⟨0,Nat.zero_le _,by go_num,HB⟩
 case round =>
  obtain ⟨i,hi,rfl,HB1⟩:=hrel
  clear HB
  by_cases hil:i<l.length
  ·obtain ⟨ad0,rfl,hc0⟩:=C_str (Kd.C_below H0.out HB1.out) hil
   obtain ⟨ad1,rfl,hc1⟩:=C_str (Kd.C_below H1.out HB1.out) hil
   have hb0:(l[i].toList == l[i].toList)=true:=beq_self_eq_true _
   have hb1:(l[i].toList != l[i].toList)=false:=by rw [bne,hb0]; rfl
   go_wp2
   go_quiet (fail)
   go_wp2
   rename_i nq
   have HB2:=Lib.hid (show Below w.heap.size w (wr.drewN nq) by apply zab; exact HB1.out)
   go_roundw
   case rel=>exact ⟨i+1,by omega,by go_num,HB2⟩
   case measure=>simp [intOf]; omega
  ·obtain rfl:i=l.length:=by omega
   go_wp2
   go_ret
   exact ⟨rfl,HB1.out⟩
end Go.Proofs.ZQ
end
