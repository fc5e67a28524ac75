/- Texts under the proof, joined by a program (prune.py): HRatRead, HRatRead2, HRatTold, QRatA, QRatNew, P96, HText, P95, SPlus, P101, P110, STimes, QRef, QRef2, P117, QRef3, P100, P102, P103, STake, SDiv, HLimbs, HMinus, HTake, HDivide, HRatTen, HAddAlias, HRatEven, QRatDigits. -/
import Derived.Test.YtglaeambknhjlaaGreatDoorCShowTable11
import Derived.Test.YtglaeambknhjlaaGreatDoorCShowTable03
import Derived.Test.YtglaeambknhjlaaGreatDoorCShowTable05
import Derived.Test.YtglaeambknhjlaaGreatDoorCShowTable10
import Derived.Test.YtglaeambknhjlaaGreatDoorCShowTable08
import Derived.Test.YtglaeambknhjlaaGreatDoorCShowTable07
set_option linter.unusedVariables false
set_option linter.unusedSimpArgs false
set_option exponentiation.threshold 20001
set_option maxHeartbeats 8000000
set_option maxRecDepth 100000
section
namespace Go.Proofs.YtglaeambknhjlaaGreatDoor.P
open Go.RowKit Go.Proofs.YtglaeambknhjlaaGreatDoorW.PrintWords
theorem dig_T (n:Nat):Dig (T n).data.toList:=(T_can n).2.1
theorem T_size_pos (n:Nat):0<(T n).size:=by rw [T_size]; exact decl_length_pos n
theorem nat_right_calls (s:ByteArray) (w:World):Calls Tryz.prog 194 #[.string s] w fun e w'=>e = .returned (.bool (rightB s))∧Drawn0 w w':=by
 obtain ⟨k,hk⟩:=(nat_right_ev s).rounds
 exact nat_Right.calls k s _ w hk
theorem drawn_below {w w':World} (h:Drawn0 w w'):Below w.heap.size w w':=by
 obtain ⟨n,rfl⟩:=h
 exact below_drewN' _ _
theorem natural_no (s:ByteArray) (w:World) (h:rightB s=false) :
  Calls Tryz.prog 107 #[.string s] w fun e w'=>e = .returned (.pointer none)∧Below w.heap.size w w':=by
 have HR:=fun W=>nat_right_calls s W
 rw [h] at HR
 clear h
 go_enter Tryz.func107,Tryz.ntmps107
 go_wp2_with fail
 refine (HR _).mono ?_
 rintro e w1 ⟨rfl,hd⟩
 have hb:=drawn_below hd
 go_wp2
 go_ret
 exact ⟨rfl,hb⟩
theorem natural_yes (n:Nat) (w:World) (h:n<10^600) :
  Calls Tryz.prog 107 #[.string (T n)] w fun e w'=>∃ D,e = .returned (.pointer (some ⟨D,0,none⟩))∧w.heap.size≤D∧IntAt w' D 0 n∧Below w.heap.size w w':=by
 have HR:=fun W=>nat_right_calls (T n) W
 rw [right_iff.2 ⟨n,rfl,h⟩] at HR
 have hs:(T n).size≤600:=(T_size_le (by decide)).2 h
 have hu105:=Tryz.underlying105
 have HH:=Lib.hid h
 clear h
 go_enter Tryz.func107,Tryz.ntmps107
 go_wp2_with fail
 refine (HR _).mono ?_
 rintro e w1 ⟨rfl,hd⟩
 have hb1:=drawn_below hd
 have hnew:=IntAt.new w1 105 (by decide)
 have hba:=below_alloc (Below.refl w1.heap.size w1) (.cells #[.bool false,.slice none 0 0] 105)
 have hs1:=hb1.size
 clear hd
 go_wp2_with fail
 refine (setString_calls w1.heap.size 0 (T n) _ _ hnew.slot (dig_T n) (T_size_pos n) (by omega)).mono ?_
 rintro e w2 ⟨rfl,hx2,hu2⟩
 rw [T_dval] at hx2
 have hb2:=hu2.new (bthen hb1 hba) hs1
 go_wp2
 go_ret
 exact ⟨_,rfl,hs1,hx2,hb2⟩
theorem wtext_pos {x:Int} (h:0≤x):wtext x=T x.natAbs:=by unfold wtext T; rw [if_neg (by omega)]; rfl
theorem wtext_neg_data {x:Int} (h:x<0):(wtext x).data.toList=45 :: (T x.natAbs).data.toList:=by unfold wtext; rw [if_pos h,T_data]; simp
theorem cut_minus (s:ByteArray):(∃ t,s.data.toList=45 :: t∧Lib.trimPrefix s.data.toList [45]=t∧Lib.hasPrefix s.data.toList [45]=true)∨((∀ t,s.data.toList≠45 :: t)∧Lib.trimPrefix s.data.toList [45]=s.data.toList∧Lib.hasPrefix s.data.toList [45]=false):=by
 unfold Lib.trimPrefix Lib.hasPrefix
 rcases s.data.toList with _|⟨c,t⟩
 ·exact Or.inr ⟨fun t h=>(by cases h),rfl,rfl⟩
 ·by_cases hc:c=45
  ·subst hc
   exact Or.inl ⟨t,rfl,by simp,by simp⟩
  ·have:(List.isPrefixOf [45] (c :: t))=false:=by simp [List.isPrefixOf]; exact fun h=>hc h.symm
   exact Or.inr ⟨fun t' h=>hc (by injection h),by rw [this]; rfl,this⟩
theorem ba_of_data {s:ByteArray} {l:List UInt8} (h:s.data.toList=l):s=⟨l.toArray⟩:=by
 subst h; simp
def WR (s:ByteArray) (x:Int):Prop:=s=wtext x∧x.natAbs<10^600
theorem ten600:(10:Nat)^600≤2^2000:=by
 have h1:(10:Nat)^600=(10^3)^200:=by rw [←Nat.pow_mul]
 have h2:(2:Nat)^2000=(2^10)^200:=by rw [←Nat.pow_mul]
 rw [h1,h2]
 exact Nat.pow_le_pow_left (by decide) 200
theorem T_head_ne (n:Nat) (t:List UInt8):(T n).data.toList≠45 :: t:=fun h=>by
 have:=dig_T n 45 (by rw [h]; exact List.mem_cons_self)
 have h2:(45:UInt8).toNat=45:=rfl
 omega
theorem whole_yes (x:Int) (w:World) (h:x.natAbs<10^600) :
  Calls Tryz.prog 106 #[.string (wtext x)] w fun e w'=>∃ D,e = .returned (.pointer (some ⟨D,0,none⟩))∧w.heap.size≤D∧IntAt w' D 0 x∧Below w.heap.size w w':=by
 have HN:=fun W=>natural_yes x.natAbs W h
 have hbd:Bd 2000 (x.natAbs:Int):=by
  unfold Bd
  rw [Int.natAbs_natCast]
  exact Nat.lt_of_lt_of_le h ten600
 have HB:=Lib.hid hbd
 clear hbd h
 by_cases hx:x<0
 ·have hd:=wtext_neg_data hx
  have hc:=fun W=>Tryz.strings_CutPrefix (wtext x) ⟨#[45]⟩ W
  have e1:Lib.trimPrefix (wtext x).data.toList (⟨#[45]⟩:ByteArray).data.toList=(T x.natAbs).data.toList:=by rw [hd]; simp [Lib.trimPrefix,Lib.hasPrefix]
  have e2:Lib.hasPrefix (wtext x).data.toList (⟨#[45]⟩:ByteArray).data.toList=true:=by rw [hd]; simp [Lib.hasPrefix]
  simp only [e1,e2] at hc
  rw [←ba_of_data (rfl:(T x.natAbs).data.toList=_)] at hc
  have hne:(((x.natAbs:Nat):Int).sign == 0)=false:=beq_eq_false_iff_ne.2 (fun h=>by have:=Int.sign_eq_zero_iff_zero.1 h; omega)
  have hneg : -((x.natAbs:Nat):Int)=x:=by omega
  have HNG:=Lib.hid hneg
  clear hd e1 e2 hneg
  go_enter Tryz.func106,Tryz.ntmps106
  go_wp2_with fail
  refine (hc _).mono ?_
  rintro e w1 ⟨rfl,rfl⟩
  go_wp2_with fail
  refine (HN _).mono ?_
  rintro e w2 ⟨D,rfl,hD,hx2,hb2⟩
  go_wp2_with fail
  refine (sign_calls D 0 _ _ hx2).mono ?_
  rintro e w3 ⟨rfl,rfl⟩
  go_wp2_with fail
  refine (neg_calls D 0 D 0 _ _ hx2.slot hx2 HB.out (by unfold big; omega)).mono ?_
  rintro e w3 ⟨rfl,hx3,hu3⟩
  rw [HNG.out] at hx3
  go_wp2
  go_ret
  exact ⟨_,rfl,hD,hx3,hu3.new hb2 hD⟩
 ·have hd:=wtext_pos (show 0≤x by omega)
  rw [hd]
  have hc:=fun W=>Tryz.strings_CutPrefix (T x.natAbs) ⟨#[45]⟩ W
  have hcm:Lib.trimPrefix (T x.natAbs).data.toList (⟨#[45]⟩:ByteArray).data.toList=(T x.natAbs).data.toList∧Lib.hasPrefix (T x.natAbs).data.toList (⟨#[45]⟩:ByteArray).data.toList=false:=by
   rcases cut_minus (T x.natAbs) with ⟨t,ht,_⟩|⟨_,h1,h2⟩
   ·exact absurd ht (T_head_ne _ _)
   ·exact ⟨h1,h2⟩
  simp only [hcm.1,hcm.2] at hc
  rw [←ba_of_data (rfl:(T x.natAbs).data.toList=_)] at hc
  have HNG:=Lib.hid (show ((x.natAbs:Nat):Int)=x by omega)
  clear hd hcm
  go_enter Tryz.func106,Tryz.ntmps106
  go_wp2_with fail
  refine (hc _).mono ?_
  rintro e w1 ⟨rfl,rfl⟩
  go_wp2_with fail
  refine (HN _).mono ?_
  rintro e w2 ⟨D,rfl,hD,hx2,hb2⟩
  rw [HNG.out] at hx2
  go_wp2
  go_ret
  exact ⟨_,rfl,hD,hx2,hb2⟩
theorem whole_no (s:ByteArray) (w:World) (h:¬ ∃ x,WR s x) :
  Calls Tryz.prog 106 #[.string s] w fun e w'=>e = .returned (.pointer none)∧Below w.heap.size w w':=by
 have hc:=fun W=>Tryz.strings_CutPrefix s ⟨#[45]⟩ W
 rcases cut_minus s with ⟨t,ht,h1,h2⟩|⟨hno,h1,h2⟩
 ·have h1':Lib.trimPrefix s.data.toList (⟨#[45]⟩:ByteArray).data.toList=t:=h1
  have h2':Lib.hasPrefix s.data.toList (⟨#[45]⟩:ByteArray).data.toList=true:=h2
  simp only [h1',h2'] at hc
  by_cases hr:rightB ⟨t.toArray⟩=true
  ·obtain ⟨n,hn,hlt⟩:=right_iff.1 hr
   have hn0:n=0:=by
    apply Classical.byContradiction
    intro hn0
    refine h ⟨-(n:Int),?_,by omega⟩
    have e:=wtext_neg_data (x:=-(n:Int)) (by omega)
    rw [show (-(n:Int)).natAbs=n by omega,←hn] at e
    have e2:s.data.toList=(wtext (-(n:Int))).data.toList:=by rw [e,ht]
    exact (ba_of_data e2).trans (ba_of_data rfl).symm
   subst hn0
   rw [hn] at hc
   have HN:=fun W=>natural_yes 0 W hlt
   clear h hr hlt h1 h2 h1' h2' ht hn
   go_enter Tryz.func106,Tryz.ntmps106
   go_wp2_with fail
   refine (hc _).mono ?_
   rintro e w1 ⟨rfl,rfl⟩
   go_wp2_with fail
   refine (HN _).mono ?_
   rintro e w2 ⟨D,rfl,hD,hx2,hb2⟩
   go_wp2_with fail
   refine (sign_calls D 0 _ _ hx2).mono ?_
   rintro e w3 ⟨rfl,rfl⟩
   go_wp2
   go_ret
   exact ⟨rfl,hb2⟩
  ·have HN:=fun W=>natural_no ⟨t.toArray⟩ W (by simpa using hr)
   clear h hr h1 h2 h1' h2' ht
   go_enter Tryz.func106,Tryz.ntmps106
   go_wp2_with fail
   refine (hc _).mono ?_
   rintro e w1 ⟨rfl,rfl⟩
   go_wp2_with fail
   refine (HN _).mono ?_
   rintro e w2 ⟨rfl,hb2⟩
   go_wp2
   go_ret
   exact ⟨rfl,hb2⟩
 ·have h1':Lib.trimPrefix s.data.toList (⟨#[45]⟩:ByteArray).data.toList=s.data.toList:=h1
  have h2':Lib.hasPrefix s.data.toList (⟨#[45]⟩:ByteArray).data.toList=false:=h2
  simp only [h1',h2'] at hc
  rw [←ba_of_data (rfl:s.data.toList=_)] at hc
  have hr:rightB s=false:=by
   cases hq:rightB s
   ·rfl
   ·obtain ⟨n,hn,hlt⟩:=right_iff.1 hq
    exact absurd ⟨(n:Int),by rw [hn,wtext_pos (by omega),Int.natAbs_natCast],by omega⟩ h
  have HN:=fun W=>natural_no s W hr
  clear h hr h1 h2 h1' h2' hno
  go_enter Tryz.func106,Tryz.ntmps106
  go_wp2_with fail
  refine (hc _).mono ?_
  rintro e w1 ⟨rfl,rfl⟩
  go_wp2_with fail
  refine (HN _).mono ?_
  rintro e w2 ⟨rfl,hb2⟩
  go_wp2
  go_ret
  exact ⟨rfl,hb2⟩
structure RR (a b:ByteArray) (x:Rat):Prop where
 num:a=wtext x.num
 den:b=T x.den
 ln:x.num.natAbs<10^600
 ld:x.den<10^600
theorem natural_any (s:ByteArray) (w:World):Calls Tryz.prog 107 #[.string s] w fun e w'=>∃ v,e = .returned (.pointer v)∧Below w.heap.size w w':=by
 cases hr:rightB s
 ·exact (natural_no s w hr).mono fun e w' ⟨he,hb⟩=>⟨_,he,hb⟩
 ·obtain ⟨n,rfl,hn⟩:=right_iff.1 hr
  exact (natural_yes n w hn).mono fun e w' ⟨D,he,_,_,hb⟩=>⟨_,he,hb⟩
theorem bd600 {n:Nat} (h:n<10^600):Bd 2000 (n:Int):=by
 unfold Bd
 rw [Int.natAbs_natCast]
 exact Nat.lt_of_lt_of_le h ten600
theorem bd600' {x:Int} (h:x.natAbs<10^600):Bd 2000 x:=by
 unfold Bd
 exact Nat.lt_of_lt_of_le h ten600
theorem RR.bd {a b:ByteArray} {x:Rat} (h:RR a b x):Bdr 2000 x:=⟨bd600' h.ln,bd600 h.ld⟩
theorem read_noW (a b:ByteArray) (w:World) (h:¬ ∃ x,WR a x) :
  Calls Tryz.prog 101 #[.agg #[.string a,.string b]] w fun e w'=>e = .returned (.pointer none)∧Below w.heap.size w w':=by
 have HW:=fun W=>whole_no a W h
 have HN:=fun W=>natural_any b W
 clear h
 have c0:(w.alloc (.cells #[.string a,.string b] 23)).cell? ⟨w.heap.size,0,none⟩=some (.string a):=(blk_cell (blk_new w (.cells #[.string a,.string b] 23)) 0).trans rfl
 have c1:(w.alloc (.cells #[.string a,.string b] 23)).cell? ⟨w.heap.size,1,none⟩=some (.string b):=(blk_cell (blk_new w (.cells #[.string a,.string b] 23)) 1).trans rfl
 have hba:=below_alloc (Below.refl w.heap.size w) (.cells #[.string a,.string b] 23)
 go_enter Tryz.func101,Tryz.ntmps101
 go_wp2_with fail
 have hs0:=hba.size
 generalize w.alloc (.cells #[.string a,.string b] 23)=W0 at *
 generalize hBe:w.heap.size=B0 at c0 c1 ⊢
 have HBE:=Lib.hid hBe
 clear hBe
 go_region_held3 (fun w'=>w'.cell? ⟨B0,0,none⟩=some (.string a)∧w'.cell? ⟨B0,1,none⟩=some (.string b)) (refine ⟨?_,?_⟩<;>(repeat (with_reducible first|assumption|refine cell_drewk ?_|refine bcell hb2 ?_|refine bcell hb1 ?_)))
  ((first
   | (go_simp; go_at_call 106; refine (HW _).mono ?_; rintro e w1 ⟨rfl,hb1⟩)
   | (go_simp; go_at_call 107; refine (HN _).mono ?_; rintro e w2 ⟨v,rfl,hb2⟩)
   ))
 all_goals
  have hBW:Below w.heap.size w w2:=(by repeat (with_reducible first|exact hba|apply below_drew|refine bthen ?_ hb2|refine bthen ?_ hb1))
  go_wp2
  go_ret
  exact ⟨rfl,hBW⟩
theorem read_noN (x:Int) (b:ByteArray) (w:World) (hx:x.natAbs<10^600) (h:rightB b=false) :
  Calls Tryz.prog 101 #[.agg #[.string (wtext x),.string b]] w fun e w'=>e = .returned (.pointer none)∧Below w.heap.size w w':=by
 have HW:=fun W=>whole_yes x W hx
 have HN:=fun W=>natural_no b W h
 clear h hx
 generalize wtext x=a at *
 have c0:(w.alloc (.cells #[.string a,.string b] 23)).cell? ⟨w.heap.size,0,none⟩=some (.string a):=(blk_cell (blk_new w (.cells #[.string a,.string b] 23)) 0).trans rfl
 have c1:(w.alloc (.cells #[.string a,.string b] 23)).cell? ⟨w.heap.size,1,none⟩=some (.string b):=(blk_cell (blk_new w (.cells #[.string a,.string b] 23)) 1).trans rfl
 have hba:=below_alloc (Below.refl w.heap.size w) (.cells #[.string a,.string b] 23)
 go_enter Tryz.func101,Tryz.ntmps101
 go_wp2_with fail
 have hs0:=hba.size
 generalize w.alloc (.cells #[.string a,.string b] 23)=W0 at *
 generalize hBe:w.heap.size=B0 at c0 c1 ⊢
 have HBE:=Lib.hid hBe
 clear hBe
 go_region_held3 (fun w'=>w'.cell? ⟨B0,0,none⟩=some (.string a)∧w'.cell? ⟨B0,1,none⟩=some (.string b)) (refine ⟨?_,?_⟩<;>(repeat (with_reducible first|assumption|refine cell_drewk ?_|refine bcell hb2 ?_|refine bcell hb1 ?_)))
  ((first
   | (go_simp; go_at_call 106; refine (HW _).mono ?_; rintro e w1 ⟨D,rfl,hD,hx1,hb1⟩)
   | (go_simp; go_at_call 107; refine (HN _).mono ?_; rintro e w2 ⟨rfl,hb2⟩)
   ))
 all_goals
  have hBW:Below w.heap.size w w2:=(by repeat (with_reducible first|exact hba|apply below_drew|refine bthen ?_ hb2|refine bthen ?_ hb1))
  clear hx1
  go_wp2
  go_ret
  exact ⟨rfl,hBW⟩
theorem read_zero (x:Int) (w:World) (hx:x.natAbs<10^600) :
  Calls Tryz.prog 101 #[.agg #[.string (wtext x),.string (T 0)]] w fun e w'=>e = .returned (.pointer none)∧Below w.heap.size w w':=by
 have HW:=fun W=>whole_yes x W hx
 have HN:=fun W=>natural_yes 0 W (Nat.pow_pos (by decide))
 clear hx
 generalize wtext x=a at *
 generalize T 0=b at *
 have c0:(w.alloc (.cells #[.string a,.string b] 23)).cell? ⟨w.heap.size,0,none⟩=some (.string a):=(blk_cell (blk_new w (.cells #[.string a,.string b] 23)) 0).trans rfl
 have c1:(w.alloc (.cells #[.string a,.string b] 23)).cell? ⟨w.heap.size,1,none⟩=some (.string b):=(blk_cell (blk_new w (.cells #[.string a,.string b] 23)) 1).trans rfl
 have hba:=below_alloc (Below.refl w.heap.size w) (.cells #[.string a,.string b] 23)
 go_enter Tryz.func101,Tryz.ntmps101
 go_wp2_with fail
 have hs0:=hba.size
 generalize w.alloc (.cells #[.string a,.string b] 23)=W0 at *
 generalize hBe:w.heap.size=B0 at c0 c1 ⊢
 have HBE:=Lib.hid hBe
 clear hBe
 go_region_held3 (fun w'=>w'.cell? ⟨B0,0,none⟩=some (.string a)∧w'.cell? ⟨B0,1,none⟩=some (.string b)) (refine ⟨?_,?_⟩<;>(repeat (with_reducible first|assumption|refine cell_drewk ?_|refine bcell hb2 ?_|refine bcell hb1 ?_)))
  ((first
   | (go_simp; go_at_call 106; refine (HW _).mono ?_; rintro e w1 ⟨D,rfl,hD,hx1,hb1⟩)
   | (go_simp; go_at_call 107; refine (HN _).mono ?_; rintro e w2 ⟨E,rfl,hE,hy2,hb2⟩)
   ))
 all_goals
  have hBW:Below w.heap.size w w2:=(by repeat (with_reducible first|exact hba|apply below_drew|refine bthen ?_ hb2|refine bthen ?_ hb1))
  clear hx1
  go_wp2_with fail
  refine (sign_calls E 0 _ _ hy2).mono ?_
  rintro e w3 ⟨rfl,rfl⟩
  go_wp2
  go_ret
  exact ⟨rfl,hBW⟩
theorem read_gcd (x:Int) (n:Nat) (w:World) (hx:x.natAbs<10^600) (hn:n<10^600) (hn0:0<n) (hg:Int.gcd x n≠1) :
  Calls Tryz.prog 101 #[.agg #[.string (wtext x),.string (T n)]] w fun e w'=>e = .returned (.pointer none)∧Below w.heap.size w w':=by
 have HW:=fun W=>whole_yes x W hx
 have HN:=fun W=>natural_yes n W hn
 have HX:=Lib.hid (And.intro (bd600' hx) (bd600 hn))
 have hne:(((n:Nat):Int).sign == 0)=false:=beq_eq_false_iff_ne.2 (fun h=>by have:=Int.sign_eq_zero_iff_zero.1 h; omega)
 have hsg:((((Int.gcd x n:Nat):Int)-1).sign == 0)=false:=beq_eq_false_iff_ne.2 (fun h=>hg (by have:=Int.sign_eq_zero_iff_zero.1 h; omega))
 have HGG:=Lib.hid hg
 clear hx hn hg
 have hu105:=Tryz.underlying105
 generalize wtext x=a at *
 generalize T n=b at *
 have c0:(w.alloc (.cells #[.string a,.string b] 23)).cell? ⟨w.heap.size,0,none⟩=some (.string a):=(blk_cell (blk_new w (.cells #[.string a,.string b] 23)) 0).trans rfl
 have c1:(w.alloc (.cells #[.string a,.string b] 23)).cell? ⟨w.heap.size,1,none⟩=some (.string b):=(blk_cell (blk_new w (.cells #[.string a,.string b] 23)) 1).trans rfl
 have hba:=below_alloc (Below.refl w.heap.size w) (.cells #[.string a,.string b] 23)
 go_enter Tryz.func101,Tryz.ntmps101
 go_wp2_with fail
 have hs0:=hba.size
 generalize w.alloc (.cells #[.string a,.string b] 23)=W0 at *
 generalize hBe:w.heap.size=B0 at c0 c1 ⊢
 have HBE:=Lib.hid hBe
 clear hBe
 go_region_held3 (fun w'=>w'.cell? ⟨B0,0,none⟩=some (.string a)∧w'.cell? ⟨B0,1,none⟩=some (.string b)) (refine ⟨?_,?_⟩<;>(repeat (with_reducible first|assumption|refine cell_drewk ?_|refine bcell hb2 ?_|refine bcell hb1 ?_)))
  ((first
   | (go_simp; go_at_call 106; refine (HW _).mono ?_; rintro e w1 ⟨D,rfl,hD,hx1,hb1⟩; have hlD:=hx1.lt; (try simp only [World.size_drew] at hD))
   | (go_simp; go_at_call 107; refine (HN _).mono ?_; rintro e w2 ⟨E,rfl,hE,hy2,hb2⟩; (try simp only [World.size_drew] at hE))
   ))
 all_goals
  have hBW:Below w.heap.size w w2:=(by repeat (with_reducible first|exact hba|apply below_drew|refine bthen ?_ hb2|refine bthen ?_ hb1))
  have hx2:IntAt w2 D 0 x:=(by repeat (with_reducible first|exact hx1|refine IntAt.below ?_ (below_drew' _)|refine IntAt.below ?_ hb2))
  have hlD2:=hx2.lt
  have hlE:=hy2.lt
  clear hx1
  go_wp2_with fail
  refine (sign_calls E 0 _ _ hy2).mono ?_
  rintro e w3 ⟨rfl,rfl⟩
  have hnewG:=(IntAt.new w2 105 (by decide)).slot
  go_wp2_with fail
  have hn1:=slot1 w2
  have hba1:=bthen (below_alloc (Below.refl w2.heap.size w2) (.cells #[.bool false,.slice none 0 0] 105)) (below_alloc (Below.refl _ _) (.cells #[.bool false,.slice none 0 0] 105))
  have hx3:=hx2.below hba1
  refine (abs_calls (w2.heap.size+1) 0 D 0 x _ hn1 hx3 HX.out.1 (by unfold big; omega)).mono ?_
  rintro e w3 ⟨rfl,ha3,hu3⟩
  have hy3:IntAt w3 E 0 n:=(hy2.below hba1).upd hu3 (Or.inl (by omega))
  have hx4:=hx3.upd hu3 (Or.inl (by omega))
  have hG3:Slot w3 w2.heap.size 0:=(hnewG.below (below_alloc (Below.refl _ _) (.cells #[.bool false,.slice none 0 0] 105))).upd hu3
  have hB3:Below w2.heap.size w2 w3:=hu3.new hba1 (by omega)
  clear hx2 hx3 hy2 hn1 hnewG hba1 hu3
  go_wp2_with fail
  refine (gcd_calls w2.heap.size 0 (w2.heap.size+1) 0 E 0 _ _ (x.natAbs:Int) (n:Int) _ hG3 ha3 hy3 (by omega) (by omega) HX.out.1.abs HX.out.2 (by unfold big; omega)).mono ?_
  rintro e w4 ⟨rfl,hg4,hu4⟩
  have hg4':IntAt w4 w2.heap.size 0 ((Int.gcd x n:Nat):Int):=hg4
  have hx5:=hx4.upd hu4 (Or.inl (by omega))
  have hy5:=hy3.upd hu4 (Or.inl (by omega))
  have hB4:=hu4.new hB3 (Nat.le_refl _)
  clear hg4 hx4 hy3 hG3 ha3 hu4 hB3
  go_wp2_with fail
  refine (newInt_new 1 _ (by decide) (by decide)).mono ?_
  rintro e w5 ⟨N1,rfl,hN1,hn5,hb5⟩
  have hg5:=hg4'.below hb5
  go_wp2_with fail
  refine (cmp_calls w2.heap.size 0 N1 0 _ 1 _ hg5 hn5).mono ?_
  rintro e w6 ⟨rfl,hb6⟩
  have hx6:=(hx5.below hb5).below hb6
  have hy6:=(hy5.below hb5).below hb6
  have hB6:=bthen hBW (bthen hB4 (bthen hb5 hb6))
  clear hx5 hy5 hg4' hg5 hn5
  go_wp2
  go_ret
  exact ⟨rfl,hB6⟩
theorem read_one (x:Int) (n:Nat) (w:World) (hx:x.natAbs<10^600) (hn:n<10^600) (hn0:0<n) (hg:Int.gcd x n=1) :
  Calls Tryz.prog 101 #[.agg #[.string (wtext x),.string (T n)]] w fun e w'=>∃ g,e = .returned (.pointer (some ⟨g,0,none⟩))∧w.heap.size≤g∧RatAt w' g (Rat.divInt x n)∧Below w.heap.size w w':=by
 have HW:=fun W=>whole_yes x W hx
 have HN:=fun W=>natural_yes n W hn
 have HX:=Lib.hid (And.intro (bd600' hx) (bd600 hn))
 have hne:(((n:Nat):Int).sign == 0)=false:=beq_eq_false_iff_ne.2 (fun h=>by have:=Int.sign_eq_zero_iff_zero.1 h; omega)
 have hsg:((((Int.gcd x n:Nat):Int)-1).sign == 0)=true:=by rw [hg]; rfl
 have HGG:=Lib.hid hg
 clear hx hn hg
 have hu105:=Tryz.underlying105
 generalize wtext x=a at *
 generalize T n=b at *
 have c0:(w.alloc (.cells #[.string a,.string b] 23)).cell? ⟨w.heap.size,0,none⟩=some (.string a):=(blk_cell (blk_new w (.cells #[.string a,.string b] 23)) 0).trans rfl
 have c1:(w.alloc (.cells #[.string a,.string b] 23)).cell? ⟨w.heap.size,1,none⟩=some (.string b):=(blk_cell (blk_new w (.cells #[.string a,.string b] 23)) 1).trans rfl
 have hba:=below_alloc (Below.refl w.heap.size w) (.cells #[.string a,.string b] 23)
 go_enter Tryz.func101,Tryz.ntmps101
 go_wp2_with fail
 have hs0:=hba.size
 generalize w.alloc (.cells #[.string a,.string b] 23)=W0 at *
 generalize hBe:w.heap.size=B0 at c0 c1 ⊢
 have HBE:=Lib.hid hBe
 clear hBe
 go_region_held3 (fun w'=>w'.cell? ⟨B0,0,none⟩=some (.string a)∧w'.cell? ⟨B0,1,none⟩=some (.string b)) (refine ⟨?_,?_⟩<;>(repeat (with_reducible first|assumption|refine cell_drewk ?_|refine bcell hb2 ?_|refine bcell hb1 ?_)))
  ((first
   | (go_simp; go_at_call 106; refine (HW _).mono ?_; rintro e w1 ⟨D,rfl,hD,hx1,hb1⟩; have hlD:=hx1.lt; (try simp only [World.size_drew] at hD))
   | (go_simp; go_at_call 107; refine (HN _).mono ?_; rintro e w2 ⟨E,rfl,hE,hy2,hb2⟩; (try simp only [World.size_drew] at hE))
   ))
 all_goals
  have hBW:Below w.heap.size w w2:=(by repeat (with_reducible first|exact hba|apply below_drew|refine bthen ?_ hb2|refine bthen ?_ hb1))
  have hx2:IntAt w2 D 0 x:=(by repeat (with_reducible first|exact hx1|refine IntAt.below ?_ (below_drew' _)|refine IntAt.below ?_ hb2))
  have hlD2:=hx2.lt
  have hlE:=hy2.lt
  clear hx1
  go_wp2_with fail
  refine (sign_calls E 0 _ _ hy2).mono ?_
  rintro e w3 ⟨rfl,rfl⟩
  have hnewG:=(IntAt.new w2 105 (by decide)).slot
  go_wp2_with fail
  have hn1:=slot1 w2
  have hba1:=bthen (below_alloc (Below.refl w2.heap.size w2) (.cells #[.bool false,.slice none 0 0] 105)) (below_alloc (Below.refl _ _) (.cells #[.bool false,.slice none 0 0] 105))
  have hx3:=hx2.below hba1
  refine (abs_calls (w2.heap.size+1) 0 D 0 x _ hn1 hx3 HX.out.1 (by unfold big; omega)).mono ?_
  rintro e w3 ⟨rfl,ha3,hu3⟩
  have hy3:IntAt w3 E 0 n:=(hy2.below hba1).upd hu3 (Or.inl (by omega))
  have hx4:=hx3.upd hu3 (Or.inl (by omega))
  have hG3:Slot w3 w2.heap.size 0:=(hnewG.below (below_alloc (Below.refl _ _) (.cells #[.bool false,.slice none 0 0] 105))).upd hu3
  have hB3:Below w2.heap.size w2 w3:=hu3.new hba1 (by omega)
  clear hx2 hx3 hy2 hn1 hnewG hba1 hu3
  go_wp2_with fail
  refine (gcd_calls w2.heap.size 0 (w2.heap.size+1) 0 E 0 _ _ (x.natAbs:Int) (n:Int) _ hG3 ha3 hy3 (by omega) (by omega) HX.out.1.abs HX.out.2 (by unfold big; omega)).mono ?_
  rintro e w4 ⟨rfl,hg4,hu4⟩
  have hg4':IntAt w4 w2.heap.size 0 ((Int.gcd x n:Nat):Int):=hg4
  have hx5:=hx4.upd hu4 (Or.inl (by omega))
  have hy5:=hy3.upd hu4 (Or.inl (by omega))
  have hB4:=hu4.new hB3 (Nat.le_refl _)
  clear hg4 hx4 hy3 hG3 ha3 hu4 hB3
  go_wp2_with fail
  refine (newInt_new 1 _ (by decide) (by decide)).mono ?_
  rintro e w5 ⟨N1,rfl,hN1,hn5,hb5⟩
  have hg5:=hg4'.below hb5
  go_wp2_with fail
  refine (cmp_calls w2.heap.size 0 N1 0 _ 1 _ hg5 hn5).mono ?_
  rintro e w6 ⟨rfl,hb6⟩
  have hx6:=(hx5.below hb5).below hb6
  have hy6:=(hy5.below hb5).below hb6
  have hB6:=bthen hBW (bthen hB4 (bthen hb5 hb6))
  clear hx5 hy5 hg4' hg5 hn5
  have hnewR:=RatAt.new w6 112 (by decide)
  have hbaR:=below_alloc (Below.refl w6.heap.size w6) (.cells #[.bool false,.slice none 0 0,.bool false,.slice none 0 0] 112)
  have hu112:=Tryz.underlying112
  have hs6:=hB6.size
  go_wp2_with fail
  refine (setFrac_calls w6.heap.size D 0 E 0 x (n:Int) _ hnewR.slot (hx6.below hbaR) (hy6.below hbaR) (by omega) HX.out.1 HX.out.2 (by unfold big; omega)).mono ?_
  rintro e w7 ⟨rfl,hz7,hu7⟩
  go_wp2
  go_ret
  exact ⟨_,rfl,hs6,hz7,hu7.new (bthen hB6 hbaR) hs6⟩
theorem read_yes (x:Rat) (w:World) (hn:x.num.natAbs<10^600) (hd:x.den<10^600) :
  Calls Tryz.prog 101 #[.agg #[.string (wtext x.num),.string (T x.den)]] w fun e w'=>∃ g,e = .returned (.pointer (some ⟨g,0,none⟩))∧w.heap.size≤g∧RatAt w' g x∧Below w.heap.size w w':=by
 have h:=read_one x.num x.den w hn hd x.den_pos x.reduced
 rwa [rat_divInt] at h
theorem read_no (a b:ByteArray) (w:World) (h:¬ ∃ x,RR a b x) :
  Calls Tryz.prog 101 #[.agg #[.string a,.string b]] w fun e w'=>e = .returned (.pointer none)∧Below w.heap.size w w':=by
 by_cases h1:∃ x,WR a x
 ·obtain ⟨x,rfl,hx⟩:=h1
  cases h2:rightB b
  ·exact read_noN x b w hx h2
  ·obtain ⟨n,rfl,hn⟩:=right_iff.1 h2
   rcases Nat.eq_zero_or_pos n with h0|h0
   ·subst h0; exact read_zero x w hx
   ·refine read_gcd x n w hx hn h0 (fun hg=>h ⟨⟨x,n,by omega,hg⟩,rfl,rfl,hx,hn⟩)
 ·exact read_noW a b w h1
def Sm (x:Rat):Prop:=x.num.natAbs<10^600∧x.den<10^600
noncomputable instance (x:Rat):Decidable (Sm x):=Classical.propDecidable _
noncomputable def toldR (x:Rat):ByteArray×ByteArray×Int:=if Sm x then (wtext x.num,T x.den,0) else (⟨#[]⟩,⟨#[]⟩,7)
end Go.Proofs.YtglaeambknhjlaaGreatDoor.P
end
section
namespace Go.Proofs.YtglaeambknhjlaaGreatDoor.Q
open Go.RowKit Go.Proofs.YtglaeambknhjlaaGreatDoorW.PrintWords Go.Proofs.YtglaeambknhjlaaGreatDoor.P
noncomputable def rat_Right.f (a0_0 a0_1:ByteArray):Option Bool:=by classical exact some (decide (∃ x,RR a0_0 a0_1 x))
theorem right_walk (a b:ByteArray) (r:Bool) (w:World) (h:r=true↔∃ x,RR a b x) :
  Calls Tryz.prog 35 #[.agg #[.string a,.string b]] w fun e w'=>e = .returned (.bool r)∧Below w.heap.size w w':=by
 have hba:=below_alloc (Below.refl w.heap.size w) (.cells #[.string a,.string b] 23)
 have c0:(w.alloc (.cells #[.string a,.string b] 23)).cell? ⟨w.heap.size,0,none⟩=some (.string a):=(blk_cell (blk_new w (.cells #[.string a,.string b] 23)) 0).trans rfl
 have c1:(w.alloc (.cells #[.string a,.string b] 23)).cell? ⟨w.heap.size,1,none⟩=some (.string b):=(blk_cell (blk_new w (.cells #[.string a,.string b] 23)) 1).trans rfl
 cases r
 ·have HR:=fun W=>read_no a b W (fun e=>by have:=h.2 e; cases this)
  clear h
  go_enter Tryz.func35,Tryz.ntmps35
  go_wp2_with fail
  refine (HR _).mono ?_
  rintro e w1 ⟨rfl,hb1⟩
  go_wp2
  go_ret
  exact ⟨rfl,bthen hba hb1⟩
 ·obtain ⟨x,hx⟩:=h.1 rfl
  have HR:=fun W=>read_yes x W hx.ln hx.ld
  rw [←hx.num,←hx.den] at HR
  clear h hx
  go_enter Tryz.func35,Tryz.ntmps35
  go_wp2_with fail
  refine (HR _).mono ?_
  rintro e w1 ⟨g,rfl,_,_,hb1⟩
  go_wp2
  go_ret
  exact ⟨rfl,bthen hba hb1⟩
def rat_Of.f (a0:Int):Option (ByteArray×ByteArray):=if -9223372036854775808≤a0∧a0<9223372036854775808 then some (wtext a0,⟨#[49]⟩) else none
def nval (s:ByteArray):Option Nat:=if rightB s then some (dval s.data.toList) else none
noncomputable def wval (s:ByteArray):Option Int:=by classical exact if h:∃ x,WR s x then some h.choose else if s=⟨#[45,48]⟩ then some 0 else none
theorem wtext_inj {x y:Int} (h:wtext x=wtext y):x=y:=by
 have h2:(wtext x).data.toList=(wtext y).data.toList:=by rw [h]
 by_cases hx:x<0<;>by_cases hy:y<0
 ·rw [wtext_neg_data hx,wtext_neg_data hy] at h2
  injection h2 with _ h2
  have:=T_inj ((ba_of_data h2).trans (ba_of_data rfl).symm)
  omega
 ·rw [wtext_neg_data hx,wtext_pos (by omega)] at h2
  exact absurd h2.symm (T_head_ne _ _)
 ·rw [wtext_neg_data hy,wtext_pos (by omega)] at h2
  exact absurd h2 (T_head_ne _ _)
 ·rw [wtext_pos (by omega),wtext_pos (by omega)] at h
  have:=T_inj h
  omega
noncomputable def rat_New.f (a0 a1:ByteArray):Option (ByteArray×ByteArray×Int):=
 match wval a0,nval a1 with
 | some x,some n=>if n=0 then some (⟨#[]⟩,⟨#[]⟩,8) else some (toldR (Rat.divInt x n))
 | _,_=>some (⟨#[]⟩,⟨#[]⟩,3)
theorem ba_loop (s:ByteArray):∀ (d i:Nat) (r:List UInt8),d=s.size-i→ByteArray.toList.loop s i r=r.reverse++s.data.toList.drop i:=by
 have hl:s.data.toList.length=s.size:=data_length s
 intro d
 induction d with
 | zero=>intro i r h; rw [ByteArray.toList.loop,if_neg (by omega),List.drop_eq_nil_of_le (by omega),List.append_nil]
 | succ d ih =>
  intro i r h
  have hi:i<s.data.toList.length:=by omega
  have hg:s.get! i=s.data.toList[i]:=by
   show s.data[i]! = _
   rw [getElem!_pos s.data i (by simpa using hi),Array.getElem_toList]
  rw [ByteArray.toList.loop,if_pos (by omega),ih (i+1) _ (by omega),List.drop_eq_getElem_cons hi,hg]
  simp
theorem ba_toList (s:ByteArray):s.toList=s.data.toList:=by
 unfold ByteArray.toList
 rw [ba_loop s s.size 0 [] (by omega)]; rfl
end Go.Proofs.YtglaeambknhjlaaGreatDoor.Q
end
section
namespace Go.Proofs.YtglaeambknhjlaaGreatDoor.P
open Go.RowKit Go.Proofs.YtglaeambknhjlaaGreatDoorW.PrintWords Go.Proofs.YtglaeambknhjlaaGreatDoorW.PrintLast Go.Proofs.YtglaeambknhjlaaGreatDoorW.PrintMore
attribute [local go_sem] max2_int min2_int max_two min_two max_three min_three max_four min_four
def cubitref01_Of.l0:Nat→Int→ByteArray→Option (ByteArray)
 | 0,_,_=>none
 | k+1,x0,x3=>if x0>9 then ((some (([(IntKind.u64.wrap (48+(Int.tmod x0 10)))%256]:List Int):List Int)).bind fun y257=>(if (strOfNums y257).size+x3.size≤9223372036854775807 then (cubitref01_Of.l0 k (IntKind.u64.wrap (Int.tdiv x0 10)) ((strOfNums y257)++x3)) else (none))) else ((some (([(IntKind.u64.wrap (48+x0))%256]:List Int):List Int)).bind fun y260=>(if (strOfNums y260).size+x3.size≤9223372036854775807 then (some ((strOfNums y260)++x3)) else (none)))
def cubitref01_Of.f (k:Nat) (a0:Int):Option (ByteArray):=cubitref01_Of.l0 k a0 (⟨#[]⟩:ByteArray)
end Go.Proofs.YtglaeambknhjlaaGreatDoor.P
end
section
namespace Go.Proofs.YtglaeambknhjlaaGreatDoor.P
open Go.RowKit Go.Proofs.YtglaeambknhjlaaGreatDoorW.PrintWords
def cubitref01_text.f (l0:List Int):Option ByteArray:=if l0=lim (lv l0).toNat∧l0.length≤1099511627776 then some (T (lv l0).toNat) else none
structure XSt (w wr:World) (l:List Int) (v:Value) (bs:List UInt8) (j:Nat):Prop where
 own:wr.ownsRow w.heap.size 5 1 v (bints bs).length (nums .u8 (bints bs))
 below:Below w.heap.size w wr
 dig:Dig bs
 len:bs.length=4*j
 eq:(dval bs:Int)=lv (l.drop (l.length-j))
def four (x:Int):List UInt8:=[UInt8.ofNat (48+x.toNat/1000%10),UInt8.ofNat (48+x.toNat/100%10),UInt8.ofNat (48+x.toNat/10%10),UInt8.ofNat (48+x.toNat%10)]
theorem bints_append (xs bs:List UInt8):bints (xs++bs)=bints xs++bints bs:=by simp [bints]
theorem four_bints {x:Int} (hx:0≤x∧x<10000):bints (four x) = [48+x/1000,48+x/100%10,48+x/10%10,48+x%10]:=by
 unfold four bints
 simp only [List.map_cons,List.map_nil]
 rw [dig_toNat _ (by omega),dig_toNat _ (by omega),dig_toNat _ (by omega),dig_toNat _ (by omega)]
 have h1:((48+x.toNat/1000%10:Nat):Int)=48+x/1000:=by omega
 have h2:((48+x.toNat/100%10:Nat):Int)=48+x/100%10:=by omega
 have h3:((48+x.toNat/10%10:Nat):Int)=48+x/10%10:=by omega
 have h4:((48+x.toNat%10:Nat):Int)=48+x%10:=by omega
 rw [h1,h2,h3,h4]
theorem four_dig (x:Int):Dig (four x):=by
 intro c hc
 unfold four at hc
 simp only [List.mem_cons,List.not_mem_nil,or_false] at hc
 rcases hc with rfl|rfl|rfl|rfl<;>(rw [dig_toNat _ (by omega)]; omega)
theorem four_dval {x:Int} (hx:0≤x∧x<10000):(dval (four x):Int)=x:=by
 unfold four dval
 simp only [List.foldl_cons,List.foldl_nil]
 rw [dig_toNat _ (by omega),dig_toNat _ (by omega),dig_toNat _ (by omega),dig_toNat _ (by omega)]
 omega
theorem XSt.more {w wr w1:World} {l:List Int} {v v1:Value} {bs:List UInt8} {j m:Nat} {x:Int} (h:XSt w wr l v bs j) (hx:rd l (m:Int)=x) (hx2:0≤x∧x<10000) (hm:m+j+1=l.length)
  (ho:w1.ownsRow w.heap.size 5 1 v1 (bints bs ++ [48+x/1000,48+x/100%10,48+x/10%10,48+x%10]).length (nums .u8 (bints bs ++ [48+x/1000,48+x/100%10,48+x/10%10,48+x%10]))) (hb:Below w.heap.size w w1):Hid (XSt w w1 l v1 (bs++four x) (j+1)):=by
 rw [←four_bints hx2,←bints_append] at ho
 refine ⟨ho,hb,fun c hc=>(List.mem_append.1 hc).elim (h.dig c) (four_dig x c),by rw [List.length_append,h.len]; simp [four]; omega,?_⟩
 rw [dval_append,show (four x).length=4 from rfl,Int.natCast_add,Int.natCast_mul,h.eq,four_dval hx2]
 have e:l.length-(j+1)=m:=by omega
 have e2:l.length-j=m+1:=by omega
 have hml:m<l.length:=by omega
 rw [e,e2,List.drop_eq_getElem_cons hml]
 simp only [lv]
 rw [←hx,rd_lt hml]
 omega
end Go.Proofs.YtglaeambknhjlaaGreatDoor.P
end
section
namespace Go.Proofs.YtglaeambknhjlaaGreatDoor.P
open Go.RowKit Go.Proofs.YtglaeambknhjlaaGreatDoorW.PrintWords Go.Proofs.YtglaeambknhjlaaGreatDoorW.PrintLast Go.Proofs.YtglaeambknhjlaaGreatDoorW.PrintMore
attribute [local go_sem] max2_int min2_int max_two min_two max_three min_three max_four min_four
mutual
def cubitref01_Plus.l0:Nat→List Int→List Int→List Int→Int→Int→Option (ByteArray)
 | 0,_,_,_,_,_=>none
 | k+1,x5,x6,x7,x8,x9=>if x9<(x5.length:Int) then (cubitref01_Plus.j1 k x5 x6 x7 x8 x9 true) else (if x9<(x6.length:Int) then (cubitref01_Plus.j1 k x5 x6 x7 x8 x9 true) else (cubitref01_Plus.j1 k x5 x6 x7 x8 x9 (decide (x8>0))))
def cubitref01_Plus.j1:Nat→List Int→List Int→List Int→Int→Int→Bool→Option (ByteArray)
 | 0,_,_,_,_,_,_=>none
 | k+1,x5,x6,x7,x8,x9,x27=>if x27=true then (if x9<(x5.length:Int) then (if 0≤x9 then (if x9<(x6.length:Int) then (if x7.length<17592186044416 then (cubitref01_Plus.l0 k x5 x6 (x7 ++ [Int.tmod (wrap64 ((wrap64 (x8+(rd x5 x9)))+(rd x6 x9))) 10000]) (wrap64 (Int.tdiv (wrap64 ((wrap64 (x8+(rd x5 x9)))+(rd x6 x9))) 10000)) (wrap64 (x9+1))) else (none)) else (if x7.length<17592186044416 then (cubitref01_Plus.l0 k x5 x6 (x7 ++ [Int.tmod (wrap64 (x8+(rd x5 x9))) 10000]) (wrap64 (Int.tdiv (wrap64 (x8+(rd x5 x9))) 10000)) (wrap64 (x9+1))) else (none))) else (none)) else (if x9<(x6.length:Int) then (if 0≤x9 then (if x7.length<17592186044416 then (cubitref01_Plus.l0 k x5 x6 (x7 ++ [Int.tmod (wrap64 (x8+(rd x6 x9))) 10000]) (wrap64 (Int.tdiv (wrap64 (x8+(rd x6 x9))) 10000)) (wrap64 (x9+1))) else (none)) else (none)) else (if x7.length<17592186044416 then (cubitref01_Plus.l0 k x5 x6 (x7 ++ [Int.tmod x8 10000]) (wrap64 (Int.tdiv x8 10000)) (wrap64 (x9+1))) else (none)))) else ((cubitref01_trim.f k x7).bind fun t238=>((cubitref01_text.f t238).bind fun t241=>(some t241)))
end
def cubitref01_Plus.f (k:Nat) (a0:ByteArray) (a1:ByteArray):Option (ByteArray):=(cubitref01_limbs.f k a0).bind fun t232=>((cubitref01_limbs.f k a1).bind fun t235=>(cubitref01_Plus.l0 k t232 t235 ([]:List Int) 0 0))
end Go.Proofs.YtglaeambknhjlaaGreatDoor.P
end
section
namespace Go.Proofs.YtglaeambknhjlaaGreatDoor.P
open Go.RowKit Go.Proofs.YtglaeambknhjlaaGreatDoorW.PrintWords
def rz (xs:List Int) (i:Nat):Int:=if i<xs.length then rd xs (i:Int) else 0
theorem lv_drop (xs:List Int) (i:Nat):lv (xs.drop i)=rz xs i+10000*lv (xs.drop (i+1)):=by
 unfold rz
 split
 ·rename_i h
  rw [List.drop_eq_getElem_cons h,rd_lt h]; rfl
 ·rename_i h
  rw [List.drop_eq_nil_of_le (by omega),List.drop_eq_nil_of_le (by omega)]; rfl
theorem Ld.snoc {xs:List Int} (h:Ld xs) {v:Int} (h0:0≤v) (h1:v<10000):Ld (xs ++ [v]):=h.append (Ld.cons h0 h1 Ld.nil)
def Fine (n:Nat):Prop:=(T n).size≤274877906944
theorem Fine.lim {n:Nat} (h:Fine n):(lim n).length≤274877906944:=by have:=lim_len_size n; unfold Fine at h; omega
end Go.Proofs.YtglaeambknhjlaaGreatDoor.P
end
section
namespace Go.Proofs.YtglaeambknhjlaaGreatDoor.P
open Go.RowKit Go.Proofs.YtglaeambknhjlaaGreatDoorW.PrintWords Go.Proofs.YtglaeambknhjlaaGreatDoorW.PrintLast Go.Proofs.YtglaeambknhjlaaGreatDoorW.PrintMore
attribute [local go_sem] max2_int min2_int max_two min_two max_three min_three max_four min_four
mutual
def cubitref01_times.l0:Nat→List Int→List Int→List Int→Int→Option (List Int)
 | 0,_,_,_,_=>none
 | k+1,x0,x1,x5,x6=>if x6<(x0.length:Int) then (cubitref01_times.l1 k x0 x1 x5 x6 0 0) else ((cubitref01_trim.f k x5).bind fun t275=>(some t275))
def cubitref01_times.l1:Nat→List Int→List Int→List Int→Int→Int→Int→Option (List Int)
 | 0,_,_,_,_,_,_=>none
 | k+1,x0,x1,x5,x6,x7,x8=>if x8<(x1.length:Int) then (if 0≤(wrap64 (x6+x8)) then (if (wrap64 (x6+x8))<(x5.length:Int) then (if 0≤x6 then (if x6<(x0.length:Int) then (if 0≤x8 then (cubitref01_times.l1 k x0 x1 (x5.set ((wrap64 (x6+x8)):Int).toNat (Int.tmod (wrap64 ((wrap64 (x7+(rd x5 (wrap64 (x6+x8)))))+(wrap64 ((rd x0 x6)*(rd x1 x8))))) 10000)) x6 (wrap64 (Int.tdiv (wrap64 ((wrap64 (x7+(rd x5 (wrap64 (x6+x8)))))+(wrap64 ((rd x0 x6)*(rd x1 x8))))) 10000)) (wrap64 (x8+1))) else (none)) else (none)) else (none)) else (none)) else (none)) else (cubitref01_times.l2 k x0 x1 x5 x6 x7 (wrap64 (x6+(x1.length:Int))))
def cubitref01_times.l2:Nat→List Int→List Int→List Int→Int→Int→Int→Option (List Int)
 | 0,_,_,_,_,_,_=>none
 | k+1,x0,x1,x5,x6,x7,x9=>if x7>0 then (if 0≤x9 then (if x9<(x5.length:Int) then (cubitref01_times.l2 k x0 x1 (x5.set (x9:Int).toNat (Int.tmod (wrap64 (x7+(rd x5 x9))) 10000)) x6 (wrap64 (Int.tdiv (wrap64 (x7+(rd x5 x9))) 10000)) (wrap64 (x9+1))) else (none)) else (none)) else (cubitref01_times.l0 k x0 x1 x5 (wrap64 (x6+1)))
end
def cubitref01_times.f (k:Nat) (l0:List Int) (l1:List Int):Option (List Int):=if 0≤(wrap64 ((l0.length:Int)+(l1.length:Int))) then (if (wrap64 ((l0.length:Int)+(l1.length:Int)):Int).toNat≤35184372088832 then (cubitref01_times.l0 k l0 l1 (List.replicate (wrap64 ((l0.length:Int)+(l1.length:Int)):Int).toNat 0) 0) else (none)) else (none)
def cubitref01_Times.f (k:Nat) (a0:ByteArray) (a1:ByteArray):Option (ByteArray):=(cubitref01_limbs.f k a0).bind fun t331=>((cubitref01_limbs.f k a1).bind fun t334=>((cubitref01_times.f k t331 t334).bind fun t337=>((cubitref01_text.f t337).bind fun t340=>(some t340))))
end Go.Proofs.YtglaeambknhjlaaGreatDoor.P
end
section
namespace Go.Proofs.YtglaeambknhjlaaGreatDoor.P
open Go.RowKit Go.Proofs.YtglaeambknhjlaaGreatDoorW.PrintWords
theorem pow4_pos (i:Nat):(0:Int)<10000^i:=Int.pow_pos (by decide)
section
variable (xs ys:List Int) (hx:Ld xs) (hy:Ld ys) (hl:xs.length+ys.length≤1099511627776)
include hx hy hl
end
end Go.Proofs.YtglaeambknhjlaaGreatDoor.P
end
section
namespace Go.Proofs.YtglaeambknhjlaaGreatDoor.Q
open Go.RowKit Go.Proofs.YtglaeambknhjlaaGreatDoorW.PrintWords Go.Proofs.YtglaeambknhjlaaGreatDoor.P
def cubitref01_Right.f (a0:ByteArray):Option Bool:=some (rightB a0)
def cubitref01_Of.f (a0:Int):Option ByteArray:=if 0≤a0∧a0<18446744073709551616 then some (T a0.toNat) else none
def numT (s:ByteArray):Option Nat:=if P.Can s.data.toList∧s.size≤137438953472 then some (dval s.data.toList) else none
def cubitref01_Plus.f (a0 a1:ByteArray):Option ByteArray:=(numT a0).bind fun x=>(numT a1).bind fun y=>some (T (x+y))
def cubitref01_Times.f (a0 a1:ByteArray):Option ByteArray:=(numT a0).bind fun x=>(numT a1).bind fun y=>some (T (x*y))
def cmpN (x y:Nat):Int:=if x<y then -1 else if y<x then 1 else 0
def cubitref01_Compare.f (a0 a1:ByteArray):Option Int:=(numT a0).bind fun x=>(numT a1).bind fun y=>some (cmpN x y)
end Go.Proofs.YtglaeambknhjlaaGreatDoor.Q
end
section
namespace Go.Proofs.YtglaeambknhjlaaGreatDoor.P
open Go.RowKit Go.Proofs.YtglaeambknhjlaaGreatDoorW.PrintWords Go.Proofs.YtglaeambknhjlaaGreatDoorW.PrintLast Go.Proofs.YtglaeambknhjlaaGreatDoorW.PrintMore
attribute [local go_sem] max2_int min2_int max_two min_two max_three min_three max_four min_four
def cubitref01_Power.l0:Nat→ByteArray→Int→ByteArray→Option (ByteArray)
 | 0,_,_,_=>none
 | k+1,x0,x1,x5=>if x1>0 then (if (Int.tmod x1 2)=1 then ((cubitref01_Times.f k x5 x0).bind fun t383=>(if (wrap64 (Int.tdiv x1 2))>0 then ((cubitref01_Times.f k x0 x0).bind fun t384=>(cubitref01_Power.l0 k t384 (wrap64 (Int.tdiv x1 2)) t383)) else (cubitref01_Power.l0 k x0 (wrap64 (Int.tdiv x1 2)) t383))) else (if (wrap64 (Int.tdiv x1 2))>0 then ((cubitref01_Times.f k x0 x0).bind fun t385=>(cubitref01_Power.l0 k t385 (wrap64 (Int.tdiv x1 2)) x5)) else (cubitref01_Power.l0 k x0 (wrap64 (Int.tdiv x1 2)) x5))) else (some x5)
def cubitref01_Power.f (k:Nat) (a0:ByteArray) (a1:Int):Option (ByteArray):=cubitref01_Power.l0 k a0 a1 (⟨#[49]⟩:ByteArray)
end Go.Proofs.YtglaeambknhjlaaGreatDoor.P
end
section
namespace Go.Proofs.YtglaeambknhjlaaGreatDoor.Q
open Go.RowKit Go.Proofs.YtglaeambknhjlaaGreatDoorW.PrintWords Go.Proofs.YtglaeambknhjlaaGreatDoor.P
def cubitref01_Power.f (a0:ByteArray) (a1:Int):Option ByteArray:=(numT a0).bind fun x=>if 0≤a1∧a1≤1000000000∧4*(T x).size*a1.toNat+1≤137438953472 then some (T (x^a1.toNat)) else none
end Go.Proofs.YtglaeambknhjlaaGreatDoor.Q
end
section
namespace Go.Proofs.YtglaeambknhjlaaGreatDoor.P
open Go.RowKit Go.Proofs.YtglaeambknhjlaaGreatDoorW.PrintWords Go.Proofs.YtglaeambknhjlaaGreatDoorW.PrintLast Go.Proofs.YtglaeambknhjlaaGreatDoorW.PrintMore
attribute [local go_sem] max2_int min2_int max_two min_two max_three min_three max_four min_four
def cubitref01_less.l0:Nat→List Int→List Int→Int→Option (Bool)
 | 0,_,_,_=>none
 | k+1,x0,x1,x5=>if x5≥0 then (if 0≤x5 then (if x5<(x0.length:Int) then (if x5<(x1.length:Int) then (if (rd x0 x5)=(rd x1 x5) then (cubitref01_less.l0 k x0 x1 (wrap64 (x5-1))) else (some (decide ((rd x0 x5)<(rd x1 x5))))) else (none)) else (none)) else (none)) else (some false)
def cubitref01_less.f (k:Nat) (l0:List Int) (l1:List Int):Option (Bool):=if (l0.length:Int)=(l1.length:Int) then (cubitref01_less.l0 k l0 l1 (wrap64 ((l0.length:Int)-1))) else (some (decide ((l0.length:Int)<(l1.length:Int))))
def cubitref01_fits.l0:Nat→List Int→List Int→Int→Int→Int→Option (Int)
 | 0,_,_,_,_,_=>none
 | k+1,x0,x1,x2,x7,x8=>if x7<x8 then ((cubitref01_times.f k x1 (([wrap64 (Int.tdiv (wrap64 ((wrap64 (x7+x8))+1)) 2)]:List Int))).bind fun t287=>(if 0≤x2 then (if x2≤(x0.length:Int) then ((cubitref01_trim.f k (x0.drop (x2:Int).toNat)).bind fun t291=>((cubitref01_less.f k t291 t287).bind fun t294=>(if t294=true then (cubitref01_fits.l0 k x0 x1 x2 x7 (wrap64 ((wrap64 (Int.tdiv (wrap64 ((wrap64 (x7+x8))+1)) 2))-1))) else (cubitref01_fits.l0 k x0 x1 x2 (wrap64 (Int.tdiv (wrap64 ((wrap64 (x7+x8))+1)) 2)) x8)))) else (none)) else (none))) else (some x7)
def cubitref01_fits.f (k:Nat) (l0:List Int) (l1:List Int) (a2:Int):Option (Int):=cubitref01_fits.l0 k l0 l1 a2 0 9999
mutual
def cubitref01_take.l0:Nat→List Int→List Int→Int→Int→Int→Int→Option (List Int)
 | 0,_,_,_,_,_,_=>none
 | k+1,x0,x1,x2,x3,x8,x9=>if x9<(x1.length:Int) then (cubitref01_take.j1 k x0 x1 x2 x3 x8 x9 true) else (cubitref01_take.j1 k x0 x1 x2 x3 x8 x9 (decide (x8>0)))
def cubitref01_take.j1:Nat→List Int→List Int→Int→Int→Int→Int→Bool→Option (List Int)
 | 0,_,_,_,_,_,_,_=>none
 | k+1,x0,x1,x2,x3,x8,x9,x18=>if x18=true then (if 0≤(wrap64 (x2+x9)) then (if (wrap64 (x2+x9))<(x0.length:Int) then (if x9<(x1.length:Int) then (if 0≤x9 then (if (wrap64 ((wrap64 ((rd x0 (wrap64 (x2+x9)))-x8))-(wrap64 (x3*(rd x1 x9)))))<0 then (cubitref01_take.l0 k (x0.set ((wrap64 (x2+x9)):Int).toNat (wrap64 ((wrap64 ((wrap64 ((rd x0 (wrap64 (x2+x9)))-x8))-(wrap64 (x3*(rd x1 x9)))))+(wrap64 ((wrap64 (Int.tdiv (wrap64 ((wrap64 ((wrap64 (-(wrap64 ((wrap64 ((rd x0 (wrap64 (x2+x9)))-x8))-(wrap64 (x3*(rd x1 x9)))))))+10000))-1)) 10000))*10000))))) x1 x2 x3 (wrap64 (Int.tdiv (wrap64 ((wrap64 ((wrap64 (-(wrap64 ((wrap64 ((rd x0 (wrap64 (x2+x9)))-x8))-(wrap64 (x3*(rd x1 x9)))))))+10000))-1)) 10000)) (wrap64 (x9+1))) else (cubitref01_take.l0 k (x0.set ((wrap64 (x2+x9)):Int).toNat (wrap64 ((wrap64 ((rd x0 (wrap64 (x2+x9)))-x8))-(wrap64 (x3*(rd x1 x9)))))) x1 x2 x3 0 (wrap64 (x9+1)))) else (none)) else (if (wrap64 ((rd x0 (wrap64 (x2+x9)))-x8))<0 then (cubitref01_take.l0 k (x0.set ((wrap64 (x2+x9)):Int).toNat (wrap64 ((wrap64 ((rd x0 (wrap64 (x2+x9)))-x8))+(wrap64 ((wrap64 (Int.tdiv (wrap64 ((wrap64 ((wrap64 (-(wrap64 ((rd x0 (wrap64 (x2+x9)))-x8))))+10000))-1)) 10000))*10000))))) x1 x2 x3 (wrap64 (Int.tdiv (wrap64 ((wrap64 ((wrap64 (-(wrap64 ((rd x0 (wrap64 (x2+x9)))-x8))))+10000))-1)) 10000)) (wrap64 (x9+1))) else (cubitref01_take.l0 k (x0.set ((wrap64 (x2+x9)):Int).toNat (wrap64 ((rd x0 (wrap64 (x2+x9)))-x8))) x1 x2 x3 0 (wrap64 (x9+1))))) else (none)) else (none)) else (some x0)
end
def cubitref01_take.f (k:Nat) (l0:List Int) (l1:List Int) (a2:Int) (a3:Int):Option (List Int):=cubitref01_take.l0 k l0 l1 a2 a3 0 0
end Go.Proofs.YtglaeambknhjlaaGreatDoor.P
end
section
namespace Go.Proofs.YtglaeambknhjlaaGreatDoor.P
open Go.RowKit Go.Proofs.YtglaeambknhjlaaGreatDoorW.PrintWords
theorem take_alg (L P o c M q y D c' new:Int) (h:new=o-c-M+10000*c') (hM:M=q*y):L+P*(new-o)-P*10000*c'-P*10000*(q*D)=L-P*c-P*(q*(y+10000*D)):=by
 rw [h,hM]; grind
structure DV (X0 Y:Int) (n:Nat) (xs q:List Int) (up1:Nat):Prop where
 lx:Ld xs
 lq:Ld q
 nx:xs.length=n
 nq:q.length=n
 eq:X0=lv q*Y+lv xs
 lt:lv xs<10000^up1*Y
 zero:∀ j,j<up1→rd q ((j:Nat):Int)=0
theorem DV.step {X0 Y:Int} {n up:Nat} {xs q:List Int} (h:DV X0 Y n xs q (up+1)) (hY:0<Y) (hu:up<n) :
  0≤lv (xs.drop up)/Y∧lv (xs.drop up)/Y≤9999∧lv (xs.drop up)<10000*Y∧0≤lv xs-10000^up*(lv (xs.drop up)/Y*Y) ∧
  ∀ zs,Ld zs→zs.length=n→lv zs=lv xs-10000^up*(lv (xs.drop up)/Y*Y)→DV X0 Y n zs (q.set up (lv (xs.drop up)/Y)) up:=by
 have h1:=lv_take_drop xs up (by rw [h.nx]; exact Nat.le_of_lt hu)
 have h2:=lv_nonneg (h.lx.take up)
 have h3:=lv_lt (h.lx.take up)
 rw [List.length_take,h.nx,Nat.min_eq_left (Nat.le_of_lt hu)] at h3
 have hD:=lv_nonneg (h.lx.drop up)
 have hp:=pow4_pos up
 have hlt:=h.lt
 rw [Int.pow_succ,Int.mul_assoc] at hlt
 have hb:lv (xs.drop up)<10000*Y:=by
  apply Classical.byContradiction
  intro hn
  have h5:(10000:Int)^up*(10000*Y)≤10000^up*lv (xs.drop up):=Int.mul_le_mul_of_nonneg_left (Int.not_lt.1 hn) (Int.le_of_lt hp)
  omega
 have ht0:0≤lv (xs.drop up)/Y:=Int.ediv_nonneg hD (Int.le_of_lt hY)
 have ht1:lv (xs.drop up)/Y<10000:=Int.ediv_lt_of_lt_mul hY hb
 have hm:=Int.emod_add_mul_ediv (lv (xs.drop up)) Y
 have hm0:=Int.emod_nonneg (lv (xs.drop up)) (show Y≠0 by omega)
 have hm1:=Int.emod_lt_of_pos (lv (xs.drop up)) hY
 rw [Int.mul_comm Y] at hm
 generalize lv (xs.drop up)/Y=t at *
 generalize lv (xs.drop up)%Y=s at *
 have e:lv xs-10000^up*(t*Y)=lv (xs.take up)+10000^up*s:=by
  rw [h1,←hm,Int.mul_add]; omega
 have hs0:0≤(10000:Int)^up*s:=Int.mul_nonneg (Int.le_of_lt hp) hm0
 refine ⟨ht0,by omega,hb,by rw [e]; omega,fun zs z1 z2 z3=>⟨z1,h.lq.set _ ht0 ht1,z2,by rw [List.length_set]; exact h.nq,?_,?_,?_⟩⟩
 ·rw [lv_set _ (by rw [h.nq]; exact hu),h.zero up (by omega),z3,h.eq,Int.sub_zero,Int.add_mul,Int.mul_assoc]; omega
 ·rw [z3,e]
  have h6:(10000:Int)^up*(s+1)≤10000^up*Y:=Int.mul_le_mul_of_nonneg_left (by omega) (Int.le_of_lt hp)
  rw [Int.mul_add,Int.mul_one] at h6
  omega
 ·intro j hj
  have h7:=h.zero j (by omega)
  unfold Go.Proofs.YtglaeambknhjlaaGreatDoorW.PrintWords.rd at *
  rw [Int.toNat_natCast] at *
  rw [List.getD_eq_getElem?_getD] at *
  rw [List.getElem?_set_ne (by omega)]
  exact h7
theorem DV.done {X0 Y:Int} {n:Nat} {xs q:List Int} (h:DV X0 Y n xs q 0) (hY:0<Y):lv q=X0/Y∧lv xs=X0%Y:=by
 have h0:=lv_nonneg h.lx
 have h1:=h.lt
 rw [Int.pow_zero,Int.one_mul] at h1
 have:=(Int.ediv_emod_unique (a:=X0) (b:=Y) (r:=lv xs) (q:=lv q) hY).2 ⟨by have:=h.eq; rw [Int.mul_comm]; omega,h0,h1⟩
 exact ⟨this.1.symm,this.2.symm⟩
structure LSt (w wr:World) (s:ByteArray) (v:Value) (xs:List Int) (e:Int):Prop where
 own:wr.ownsRow w.heap.size 3 1 v xs.length (nums .i64 xs)
 below:Below w.heap.size w wr
 ld:Ld xs
 le:e≤s.size
 ge : -4≤e
 len:xs.length≤s.size
 done:e≤0→lv xs=dval s.data.toList
 go:0<e→e+4*xs.length=s.size∧lv xs=seg s.data.toList e.toNat s.size
theorem LSt.more {w wr w1:World} {s:ByteArray} {vo v1:Value} {xs:List Int} {j:Nat} (h:LSt w wr s vo xs (j:Int)) (hd:Dig s.data.toList) (F:Nat) (j':Nat) (v:Int) (hv:((seg s.data.toList F j:Nat):Int)=v) (hF:F≤j∧j≤F+4∧(F=0∨F+4=j)) (he:(0:Int)<(j:Int))
  (ho:w1.ownsRow w.heap.size 3 1 v1 (xs ++ [v]).length (nums .i64 (xs ++ [v]))) (hb:Below w.heap.size w w1):Hid (LSt w w1 s v1 (xs ++ [v]) ((j:Int)-4)):=by
 have hsl:s.data.toList.length=s.size:=data_length s
 obtain ⟨hlen,hval⟩:=h.go he
 rw [Int.toNat_natCast] at hval
 obtain ⟨f1,f2,f3⟩:=hF
 have hlt:=seg_lt hd F j f1 (by omega)
 have hlt2:10^(j-F)≤10^4:=Nat.pow_le_pow_right (by decide) (by omega)
 have hv2:lv (xs ++ [v])=seg s.data.toList F s.size:=by
  rw [lv_append,hval,seg_join f1 (show j≤s.size by omega) (by omega)]
  have e4:s.size-j=4*xs.length:=by omega
  rw [e4,Nat.pow_mul]
  simp only [lv]
  rw [←hv,Int.natCast_add,Int.natCast_mul,Int.natCast_pow]
  grind
 refine ⟨ho,hb,h.ld.append (Ld.cons (by omega) (by omega) Ld.nil),by omega,by omega,by simp; omega,fun hle => ?_,fun hgo=>⟨by simp; omega,?_⟩⟩
 ·have:F=0:=by omega
  rw [hv2,this,←hsl,seg_all]
 ·have:F=j-4:=by omega
  rw [hv2,this,show ((j:Int)-4).toNat=j-4 by omega]
theorem own_head {w:World} {base e n c:Nat} {A:Option Addr} {xs:List Value} (h:w.ownsRow base e 1 (.slice A n c) n xs) (hn:0<n):∃ g,A=some ⟨g,0,none⟩∧base≤g∧g<w.heap.size:=by
 have hl:=h.lt
 obtain ⟨h1,h2⟩:=h
 rcases h2 with ⟨hv,h0⟩|⟨g,cap,cur,hv,hg,hk,hc,hm,hs,ht⟩
 ·subst h0
  simp at h1
  omega
 ·injection hv with ha _ hcc
  subst ha
  exact ⟨g,rfl,hl g rfl⟩
structure MSt (w w1 wr:World) (A1:Option Addr) (c1:Nat) (A2:Option Addr) (c2:Nat) (D:Int) (n:Nat) (ys zs:List Int) (i:Nat) (c:Int):Prop where
 le:i≤n
 zl:zs.length=n
 ld:Ld zs
 c0:0≤c
 c9:c≤1
 ox:wr.ownsRow w.heap.size 3 1 (.slice A1 n c1) n (nums .i64 zs)
 oy:wr.ownsRow w1.heap.size 3 1 (.slice A2 ys.length c2) ys.length (nums .i64 ys)
 below:Below w.heap.size w wr
 eq:lv zs-10000^i*c-10000^i*lv (ys.drop i)=D
theorem minus_alg (L P o c c' y D new:Int) (h:new=o-c-y+10000*c'):L+P*(new-o)-P*10000*c'-P*10000*D=L-P*c-P*(y+10000*D):=by
 rw [h]; grind
theorem MSt.step {w w1 wr:World} {g:Nat} {c1:Nat} {A2:Option Addr} {c2:Nat} {D:Int} {n:Nat} {ys zs:List Int} {i:Nat} {c z y:Int} (h:MSt w w1 wr (some ⟨g,0,none⟩) c1 A2 c2 D n ys zs i c) (hi:i<n) (hg:w.heap.size≤g) (hg1:g<w1.heap.size)
  (hz:rd zs (i:Int)=z) (hy:rz ys i=y) (v c':Int) (hv:v=z-c-y+10000*c') (v0:0≤v) (v9:v<10000) (c0:0≤c') (c9:c'≤1) :
  Hid (MSt w w1 (wr.setCell ⟨g,i,none⟩ (.int .i64 v)) (some ⟨g,0,none⟩) c1 A2 c2 D n ys (zs.set i v) (i+1) c'):=by
 have hst:=own_store h.ox (i:Int) v
 rw [Int.toNat_natCast] at hst
 exact {
  le:=by omega
  zl:=by rw [List.length_set]; exact h.zl
  ld:=h.ld.set i v0 v9
  c0:=c0
  c9:=c9
  ox:=hst.1
  oy:=ownsRow_setCell_below h.oy (a:=⟨g,i,none⟩) hg1 _
  below:=h.below.setCell hg _
  eq:=by
   have hd:=lv_drop ys i
   rw [hy] at hd
   rw [lv_set v (by rw [h.zl]; exact hi),hz,←h.eq,hd,Int.pow_succ]
   exact minus_alg _ _ _ _ _ _ _ _ hv }
theorem MSt.fin {w w1 wr:World} {A1 A2:Option Addr} {c1 c2 n a b:Nat} {ys zs:List Int} {c:Int} (h:MSt w w1 wr A1 c1 A2 c2 ((a:Int)-b) n ys zs n c) (hle:b≤a) (hy:ys.length≤n):lv zs=((a-b:Nat):Int):=by
 have he:=h.eq
 have hnil:ys.drop n = []:=List.drop_eq_nil_of_le hy
 rw [hnil,show lv []=0 from rfl,Int.mul_zero,Int.sub_zero] at he
 have h2:=lv_lt h.ld
 rw [h.zl] at h2
 have hc0:=h.c0
 have hc9:=h.c9
 have hc:c=0:=by
  apply Classical.byContradiction
  intro hc
  have:c=1:=by omega
  subst this
  rw [Int.mul_one] at he
  generalize (10000:Int)^n=P at *
  omega
 subst hc
 rw [Int.mul_zero] at he
 omega
def numP (s:ByteArray):Option Nat:=if P.Can s.data.toList∧s.size≤137438953472 then some (dval s.data.toList) else none
def cubitref01_Minus.f (a0 a1:ByteArray):Option ByteArray:=(numP a0).bind fun x=>(numP a1).bind fun y=>if y≤x then some (T (x-y)) else none
structure KSt (b0 b1:Nat) (w wr:World) (g c1 n:Nat) (A2:Option Addr) (c2:Nat) (ys zs:List Int) (up:Nat) (q R:Int) (k:Nat) (c:Int):Prop where
 le:up+k≤n
 zl:zs.length=n
 ld:Ld zs
 c0:0≤c
 c9:c≤9999
 ox:wr.ownsRow b0 3 1 (.slice (some ⟨g,0,none⟩) n c1) n (nums .i64 zs)
 oy:wr.ownsRow b1 3 1 (.slice A2 ys.length c2) ys.length (nums .i64 ys)
 keep:KeepB w wr g
 eq:lv zs-10000^(up+k)*c-10000^(up+k)*(q*lv (ys.drop k))=R
theorem KSt.zero {b0 b1:Nat} {w wr:World} {g c1 n:Nat} {A2:Option Addr} {c2:Nat} {ys zs:List Int} {up:Nat} {q R:Int} {k:Nat} {c:Int} (h:KSt b0 b1 w wr g c1 n A2 c2 ys zs up q R k c) (hR:0≤R) (hu:up+ys.length≤n) (hk:¬ up+k<n):ys.length≤k∧c=0:=by
 have hle:=h.le
 have he:=h.eq
 have h2:=lv_lt h.ld
 have h0:=h.c0
 refine ⟨by omega,?_⟩
 have hnil:ys.drop k = []:=List.drop_eq_nil_of_le (by omega)
 rw [hnil,show lv []=0 from rfl,Int.mul_zero,Int.mul_zero,Int.sub_zero,show up+k=n by omega] at he
 rw [h.zl] at h2
 apply Classical.byContradiction
 intro hc
 have h3:(10000:Int)^n*1≤10000^n*c:=Int.mul_le_mul_of_nonneg_left (by omega) (Int.le_of_lt (pow4_pos n))
 generalize (10000:Int)^n=P at *
 omega
theorem KSt.fin {b0 b1:Nat} {w wr:World} {g c1 n:Nat} {A2:Option Addr} {c2:Nat} {ys zs:List Int} {up:Nat} {q R:Int} {k:Nat} (h:KSt b0 b1 w wr g c1 n A2 c2 ys zs up q R k 0) (hk:ys.length≤k):lv zs=R:=by
 have he:=h.eq
 have hnil:ys.drop k = []:=List.drop_eq_nil_of_le hk
 rw [hnil,show lv []=0 from rfl,Int.mul_zero,Int.mul_zero,Int.mul_zero,Int.sub_zero,Int.sub_zero] at he
 exact he
theorem KSt.step {b0 b1:Nat} {w wr:World} {g c1 n:Nat} {A2:Option Addr} {c2:Nat} {ys zs:List Int} {up:Nat} {q R:Int} {k:Nat} {c z y:Int} (h:KSt b0 b1 w wr g c1 n A2 c2 ys zs up q R k c) (hk:up+k<n) (hg:g<b1)
  (hz:rd zs ((up+k:Nat):Int)=z) (hy:rz ys k=y) (v c':Int) (hv:v=z-c-q*y+10000*c') (v0:0≤v) (v9:v<10000) (c0:0≤c') (c9:c'≤9999) :
  Hid (KSt b0 b1 w (wr.setCell ⟨g,up+k,none⟩ (.int .i64 v)) g c1 n A2 c2 ys (zs.set (up+k) v) up q R (k+1) c'):=by
 have hst:=own_store h.ox ((up+k:Nat):Int) v
 rw [Int.toNat_natCast] at hst
 exact {
  le:=by omega
  zl:=by rw [List.length_set]; exact h.zl
  ld:=h.ld.set _ v0 v9
  c0:=c0
  c9:=c9
  ox:=hst.1
  oy:=ownsRow_setCell_below h.oy (a:=⟨g,up+k,none⟩) hg _
  keep:=h.keep.set _ _
  eq:=by
   have hd:=lv_drop ys k
   rw [hy] at hd
   rw [lv_set v (by rw [h.zl]; exact hk),hz,←h.eq,hd,show up+(k+1)=(up+k)+1 by omega,Int.pow_succ]
   exact take_alg _ _ _ _ (q*y) _ _ _ _ _ hv rfl }
structure QSt (w w1 wr:World) (g c1 n:Nat) (A2:Option Addr) (c2:Nat) (ys:List Int) (gq:Nat) (X0:Int) (xs q:List Int) (j:Nat):Prop where
 dv:DV X0 (lv ys) n xs q j
 le:j+ys.length≤n+1
 ox:wr.ownsRow w.heap.size 3 1 (.slice (some ⟨g,0,none⟩) n c1) n (nums .i64 xs)
 oy:wr.ownsRow w1.heap.size 3 1 (.slice A2 ys.length c2) ys.length (nums .i64 ys)
 oq:wr.ownsRow w.heap.size 3 1 (.slice (some ⟨gq,0,none⟩) n n) n (nums .i64 q)
 below:Below w.heap.size w wr
theorem QSt.next {w w1 wr w':World} {g c1 n:Nat} {A2:Option Addr} {c2:Nat} {ys:List Int} {gq:Nat} {X0:Int} {xs q zs:List Int} {up:Nat} (h:QSt w w1 wr g c1 n A2 c2 ys gq X0 xs q (up+1)) (hY:0<lv ys) (hyl:0<ys.length)
  (hgw:w.heap.size≤g) (hg1:g<w1.heap.size) (hgq:w1.heap.size≤gq) (hqy:∀ g2,A2=some ⟨g2,0,none⟩→g2≠gq) (hw1:w.heap.size≤w1.heap.size)
  (z1:Ld zs) (z2:zs.length=n) (t:Int) (ht:lv (xs.drop up)/lv ys=t) (z3:lv zs=lv xs-10000^up*(t*lv ys))
  (ox:w'.ownsRow w.heap.size 3 1 (.slice (some ⟨g,0,none⟩) n c1) n (nums .i64 zs)) (hk:KeepB (wr.setCell ⟨gq,up,none⟩ (.int .i64 t)) w' g) :
  Hid (QSt w w1 w' g c1 n A2 c2 ys gq X0 zs (q.set up t) up):=by
 subst ht
 have hle:=h.le
 have hu:up<n:=by omega
 have hst:=own_store h.oq (up:Int) (lv (xs.drop up)/lv ys)
 rw [Int.toNat_natCast] at hst
 have hB:=h.below.setCell (p:=⟨gq,up,none⟩) (show w.heap.size≤gq by omega) (.int .i64 (lv (xs.drop up)/lv ys))
 have hk2:KeepB wr (wr.setCell ⟨gq,up,none⟩ (.int .i64 (lv (xs.drop up)/lv ys))) gq:=(KeepB.refl wr gq).set up _
 obtain ⟨g2,he2,hg2,hg2'⟩:=own_head h.oy hyl
 exact {
  dv:=(h.dv.step hY hu).2.2.2.2 zs z1 z2 z3
  le:=by omega
  ox:=ox
  oy:=by
   refine (h.oy.kept hk2.grown (Or.inr ?_)).kept hk.grown (Or.inr ?_)
   ·subst he2
    have:=hqy g2 rfl
    simpa [Value.ownBlock] using this
   ·subst he2
    have:g2≠g:=by omega
    simpa [Value.ownBlock] using this
  oq:=hst.1.kept hk.grown (Or.inr (by
   have:gq≠g:=by omega
   simpa [Value.ownBlock] using this))
  below:=KeepB.below hB hk hgw }
theorem QSt.set {w w1 wr:World} {g c1 n:Nat} {A2:Option Addr} {c2:Nat} {ys:List Int} {gq:Nat} {X0:Int} {xs q:List Int} {j:Nat} (h:QSt w w1 wr g c1 n A2 c2 ys gq X0 xs q j) (hyl:0<ys.length) (hgq:g≠gq) (hqy:∀ g2,A2=some ⟨g2,0,none⟩→g2≠gq) (up:Nat) (t:Int) :
  (wr.setCell ⟨gq,up,none⟩ (.int .i64 t)).ownsRow w.heap.size 3 1 (.slice (some ⟨g,0,none⟩) n c1) n (nums .i64 xs)∧(wr.setCell ⟨gq,up,none⟩ (.int .i64 t)).ownsRow w1.heap.size 3 1 (.slice A2 ys.length c2) ys.length (nums .i64 ys):=by
 have hk2:KeepB wr (wr.setCell ⟨gq,up,none⟩ (.int .i64 t)) gq:=(KeepB.refl wr gq).set up _
 obtain ⟨g2,he2,hg2,hg2'⟩:=own_head h.oy hyl
 refine ⟨h.ox.kept hk2.grown (Or.inr (by simpa [Value.ownBlock] using hgq)),h.oy.kept hk2.grown (Or.inr ?_)⟩
 subst he2
 have:=hqy g2 rfl
 simpa [Value.ownBlock] using this
def cubitref01_Divide.f (a0 a1:ByteArray):Option (ByteArray×ByteArray):=(numP a0).bind fun x=>(numP a1).bind fun y=>if y=0 then none else some (T (x/y),T (x%y))
def tenR (n:Int):Rat:=if n<0 then (((10:Int)^n.natAbs:Int):Rat)⁻¹ else (((10:Int)^n.natAbs:Int):Rat)
theorem bd_ten (k:Nat):Bd (4*k+1) ((10:Int)^k):=(show Bd 4 (10:Int) by unfold Bd; decide).pow (by decide) k
theorem ten_ne (k:Nat):(((10:Int)^k:Int):Rat)≠0:=fun h=>by
 have h1:=Rat.intCast_eq_zero_iff.1 h
 have h2:(0:Int)<10^k:=Int.pow_pos (by decide)
 omega
theorem Bdr.tenR (n:Int):Bdr (4*n.natAbs+1) (tenR n):=by
 unfold P.tenR
 split
 ·exact (Bdr.int (bd_ten _) (by omega)).inv (ten_ne _)
 ·exact Bdr.int (bd_ten _) (by omega)
theorem addA_same_false (b o b1 o1 b2 o2:Nat) (x y:Int) (w:World) (hz:Slot w b o) (hx:IntAt w b1 o1 x) (hy:IntAt w b2 o2 y) {n:Nat} (hs:Bd n x) (ht:Bd n y) (hn:n≤big) (hx0:0≤x) (hy0:0≤y) :
    Calls Tryz.prog 199 #[.pointer (some ⟨b,o,none⟩),.pointer (some ⟨b1,o1,none⟩),.pointer (some ⟨b2,o2,none⟩)] w fun e w'=>e = .returned (.pointer (some ⟨b,o,none⟩))∧IntAt w' b o (x+y)∧Upd w w' b o (o+2):=by
  obtain ⟨neg,A,c,ws,h1,h2,h3,h4⟩:=hx.out
  obtain ⟨neg',A',c',ws',k1,k2,k3,k4⟩:=hy.out
  have hl1:ws.length≤34359738368:=h4.small hs hn
  have hl2:ws'.length≤34359738368:=k4.small ht hn
  have ex:=h4.eq
  have ey:=k4.eq
  clear hs ht
  have hneg:neg=false:=by cases neg; rfl; exact absurd (h4.neg_iff.1 rfl) (by omega)
  have hneg':neg'=false:=by cases neg'; rfl; exact absurd (k4.neg_iff.1 rfl) (by omega)
  subst hneg; subst hneg'
  have hk:sg false (val ws+val ws')=x+y:=by rw [ex,ey]; unfold sg; simp<;>omega
  have HK:=Lib.hid hk
  have LL1:=Lib.hid (show ws.length≤35184372088832 by omega)
  have LL2:=Lib.hid (show ws'.length≤35184372088832 by omega)
  clear ex ey hk
  go_enter Tryz.func199,Tryz.ntmps199
  go_wp2_with fail
  go_quiet (fail)
  generalize hq:w.drewN _=w1
  have HB1:=Lib.hid (show Below w.heap.size w w1 from by subst hq; exact below_drewN' _ _)
  have g1:w1.cell? ⟨b1,o1,none⟩=some (.bool false):=by subst hq; exact h1
  have g2:w1.cell? ⟨b1,o1+1,none⟩=some (.slice A ws.length c):=by subst hq; exact h2
  have g3:w1.cell? ⟨b2,o2,none⟩=some (.bool false):=by subst hq; exact k1
  have g4:w1.cell? ⟨b2,o2+1,none⟩=some (.slice A' ws'.length c'):=by subst hq; exact k2
  clear hq h1 h2 k1 k2
  go_wp2_with fail
  go_region_with ((first
      | (go_simp; go_at_call 233; refine (sum_calls A c ws A' c' ws' _ (h3.below (bthen HB1.out (below_drew' _))) (k3.below (bthen HB1.out (below_drew' _))) h4.wd k4.wd LL1.out LL2.out).mono ?_; rintro e w2 ⟨A2,c2,zs,rfl,hw2,hz2,hv2,hzl2,hb2⟩; have HV2:=Lib.hid hv2; clear hv2 hzl2; have g1:=(hb2.cell (p:=⟨b1,o1,none⟩) (World.block_lt_of_cell? _ _ g1)).trans g1)
      | (go_simp; go_at_call 187; refine (put_calls b o false A2 c2 zs _ (hz.upd (Upd.of_below (bthen (bthen HB1.out (below_drew' _)) hb2) 0 0 0)) hw2 hz2).mono ?_; rintro e w3 ⟨rfl,hx3,hu3⟩)))
  all_goals
    have hfin:sg false (val zs)=x+y:=by rw [HV2.out]; exact HK.out
    rw [hfin] at hx3
    go_wp2
    go_ret
    exact ⟨rfl,hx3,(((Upd.of_below HB1.out _ _ _).trans (Upd.of_below (below_drew' _) _ _ _)).trans (Upd.of_below hb2 _ _ _)).trans hu3⟩
theorem addA_true_false_ge (b o b1 o1 b2 o2:Nat) (x y:Int) (w:World) (hz:Slot w b o) (hx:IntAt w b1 o1 x) (hy:IntAt w b2 o2 y) {n:Nat} (hs:Bd n x) (ht:Bd n y) (hn:n≤big) (hx0:x<0) (hy0:0≤y) (hxy:x+y≤0) :
    Calls Tryz.prog 199 #[.pointer (some ⟨b,o,none⟩),.pointer (some ⟨b1,o1,none⟩),.pointer (some ⟨b2,o2,none⟩)] w fun e w'=>e = .returned (.pointer (some ⟨b,o,none⟩))∧IntAt w' b o (x+y)∧Upd w w' b o (o+2):=by
  obtain ⟨neg,A,c,ws,h1,h2,h3,h4⟩:=hx.out
  obtain ⟨neg',A',c',ws',k1,k2,k3,k4⟩:=hy.out
  have hl1:ws.length≤34359738368:=h4.small hs hn
  have hl2:ws'.length≤34359738368:=k4.small ht hn
  have ex:=h4.eq
  have ey:=k4.eq
  clear hs ht
  have hneg:neg=true:=h4.neg_iff.2 hx0
  have hneg':neg'=false:=by cases neg'; rfl; exact absurd (k4.neg_iff.1 rfl) (by omega)
  subst hneg; subst hneg'
  have hva:=h4.val_eq
  have hvb:=k4.val_eq
  have hk:sg true (val ws-val ws')=x+y:=by rw [ex,ey]; unfold sg; simp<;>omega
  have hle:val ws'≤val ws:=by omega
  have HK:=Lib.hid hk
  have HLE:=Lib.hid hle
  have HLL:=Lib.hid (show ws'.length≤ws.length from len_le_of_val h4.wd k4.wd k4.top hle)
  have LL1:=Lib.hid (show ws.length≤35184372088832 by omega)
  have LL2:=Lib.hid (show ws'.length≤35184372088832 by omega)
  clear ex ey hk hle hva hvb
  go_enter Tryz.func199,Tryz.ntmps199
  go_wp2_with fail
  go_quiet (fail)
  generalize hq:w.drewN _=w1
  have HB1:=Lib.hid (show Below w.heap.size w w1 from by subst hq; exact below_drewN' _ _)
  have g1:w1.cell? ⟨b1,o1,none⟩=some (.bool true):=by subst hq; exact h1
  have g2:w1.cell? ⟨b1,o1+1,none⟩=some (.slice A ws.length c):=by subst hq; exact h2
  have g3:w1.cell? ⟨b2,o2,none⟩=some (.bool false):=by subst hq; exact k1
  have g4:w1.cell? ⟨b2,o2+1,none⟩=some (.slice A' ws'.length c'):=by subst hq; exact k2
  clear hq h1 h2 k1 k2
  go_wp2_with fail
  go_region_held3 (fun w'=>w'.cell? ⟨b1,o1,none⟩=some (.bool true)∧w'.cell? ⟨b1,o1+1,none⟩=some (.slice A ws.length c)∧w'.cell? ⟨b2,o2,none⟩=some (.bool false)∧w'.cell? ⟨b2,o2+1,none⟩=some (.slice A' ws'.length c'))
    (first|go_keep|exact ⟨g1,g2,g3,g4⟩)
    ((first
      | (go_simp; go_at_call 230; refine (compare_words A c ws A' c' ws' _ (h3.below (bthen HB1.out (below_drew' _))) (k3.below (bthen HB1.out (below_drew' _))) h4.wd k4.wd h4.top k4.top).mono ?_; rintro e w2 ⟨r,rfl,hr,hrb,⟨⟨nd,rfl⟩⟩⟩)))
  rename_i hHeld
  generalize hq:w1.drewN _=w2 at hHeld ⊢
  have HB2:=Lib.hid (show Below w1.heap.size w1 w2 from by subst hq; exact below_drewN' _ _)
  clear hq g1 g2 g3 g4
  obtain ⟨g1,g2,g3,g4⟩:=hHeld
  have hr0:=sign_nonneg hr
  have hr1:0≤r:=by have:=HLE.out; omega
  have HB12:=Lib.hid (bthen HB1.out HB2.out)
  clear hr hr0 HB1 HB2
  have HB1:=HB12
  clear HB12
  go_wp2_with fail
  go_region_with ((first
      | (go_simp; go_at_call 234; refine (less_calls A c ws A' c' ws' _ (h3.below (bthen HB1.out (below_drew' _))) (k3.below (bthen HB1.out (below_drew' _))) h4.wd k4.wd LL1.out HLE.out HLL.out).mono ?_; rintro e w4 ⟨A2,c2,zs,rfl,hw2,hz2,hv2,hzl2,hb2⟩; have HV2:=Lib.hid hv2; clear hv2 hzl2; have gg:=(hb2.cell (p:=⟨b1,o1,none⟩) (World.block_lt_of_cell? _ _ g1)).trans g1)
      | (go_simp; go_at_call 187; refine (put_calls b o true A2 c2 zs _ (hz.upd (Upd.of_below (bthen (bthen HB1.out (below_drew' _)) hb2) 0 0 0)) hw2 hz2).mono ?_; rintro e w3 ⟨rfl,hx3,hu3⟩)))
  all_goals
    have hfin:sg true (val zs)=x+y:=by rw [HV2.out]; exact HK.out
    rw [hfin] at hx3
    go_wp2
    go_ret
    exact ⟨rfl,hx3,(((Upd.of_below HB1.out _ _ _).trans (Upd.of_below (below_drew' _) _ _ _)).trans (Upd.of_below hb2 _ _ _)).trans hu3⟩
def halfS (x:Rat):Int:=((x-(x.floor:Rat)).num*(Rat.divInt 1 2).den-(Rat.divInt 1 2).num*(x-(x.floor:Rat)).den).sign
def evenR (x:Rat):Int:=if 0<halfS x∨(halfS x=0∧x.floor.natAbs%2=1) then x.floor+1 else x.floor
theorem bd_floor {x:Rat} {n:Nat} (h:Bdr n x):Bd n x.floor:=by
 rw [Rat.floor_def]
 exact h.1.le (Int.natAbs_ediv_le_natAbs _ _)
theorem Bdr.half:Bdr 2 (Rat.divInt 1 2):=by
 refine Bdr.divInt (by decide) ?_ ?_<;>(unfold Bd; decide)
theorem add_one_calls (b N:Nat) (x:Int) (w:World) (hx:IntAt w b 0 x) (hy:IntAt w N 0 1) {n:Nat} (hs:Bd n x) (hn0:0<n) (hn:n≤big) :
  Calls Tryz.prog 199 #[.pointer (some ⟨b,0,none⟩),.pointer (some ⟨b,0,none⟩),.pointer (some ⟨N,0,none⟩)] w fun e w'=>e = .returned (.pointer (some ⟨b,0,none⟩))∧IntAt w' b 0 (x+1)∧Upd w w' b 0 2:=by
 have h1:Bd n (1:Int):=by
  unfold Bd
  have:2^1≤2^n:=Nat.pow_le_pow_right (by decide) hn0
  have:(1:Int).natAbs=1:=rfl
  omega
 by_cases h:0≤x
 ·exact addA_same_false b 0 b 0 N 0 x 1 w hx.slot hx hy hs h1 hn h (by decide)
 ·exact addA_true_false_ge b 0 b 0 N 0 x 1 w hx.slot hx hy hs h1 hn (by omega) (by decide) (by omega)
end Go.Proofs.YtglaeambknhjlaaGreatDoor.P
end
section
namespace Go.Proofs.YtglaeambknhjlaaGreatDoor.Q
open Go.RowKit Go.Proofs.YtglaeambknhjlaaGreatDoorW.PrintWords Go.Proofs.YtglaeambknhjlaaGreatDoor.P
def zer (k:Nat):ByteArray:=⟨(List.replicate k (48:UInt8)).toArray⟩
def padT (t:ByteArray) (p:Nat):ByteArray:=if t.size<p+1 then zer (p+1-t.size)++t else t
def ptT (t:ByteArray) (p:Nat):ByteArray:=if 0<p then t.extract 0 (t.size-p)++⟨#[46]⟩++t.extract (t.size-p) t.size else t
def dgt (m:Int) (p:Nat):ByteArray:=if m<0 then ⟨#[45]⟩++ptT (padT (T m.natAbs) p) p else ptT (padT (T m.natAbs) p) p
noncomputable def digR (x:Rat) (p:Int):ByteArray×Int:=if p<0∨600<p then (⟨#[]⟩,1) else if 600<(T (evenR (x*tenR p)).natAbs).size then (⟨#[]⟩,7) else (dgt (evenR (x*tenR p)) p.toNat,0)
noncomputable def rat_Digits.f (a0_0 a0_1:ByteArray) (a1:Int):Option (ByteArray×Int):=by classical exact if h:∃ x,RR a0_0 a0_1 x then some (digR h.choose a1) else some (⟨#[]⟩,3)
theorem zer_size (k:Nat):(zer k).size=k:=by show (List.replicate k (48:UInt8)).toArray.size=k; simp
theorem bd_even {x:Rat} {n:Nat} (h:Bdr n x):Bd (n+1) (evenR x):=by
 unfold evenR
 have h1:=bd_floor h
 split
 ·refine h1.add ?_
  unfold Bd at *
  have:=h.2
  unfold Bd at this
  have h3:=x.den_pos
  have h4:(1:Int).natAbs=1:=rfl
  rw [Int.natAbs_natCast] at this
  omega
 ·exact h1.mono (by omega)
theorem RR.uniq {a b:ByteArray} {x y:Rat} (h:RR a b x) (k:RR a b y):x=y:=by
 refine Rat.ext (wtext_inj (h.num.symm.trans k.num)) (T_inj (h.den.symm.trans k.den))
end Go.Proofs.YtglaeambknhjlaaGreatDoor.Q
end
