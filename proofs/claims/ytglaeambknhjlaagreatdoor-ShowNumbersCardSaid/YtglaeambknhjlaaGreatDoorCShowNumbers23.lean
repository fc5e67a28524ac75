/- Texts under the proof, joined by a program (prune.py): QFrac3, QTold, QTold2, Q124, QLaid, QTold3, TShowNumbers, LawShowNumbers. -/
import Derived.Test.YtglaeambknhjlaaGreatDoorCShowNumbers20
import Derived.Test.YtglaeambknhjlaaGreatDoorCShowNumbers21
import Derived.Test.YtglaeambknhjlaaGreatDoorCShowNumbers22
import Derived.Test.YtglaeambknhjlaaGreatDoorCShowNumbers17
import Derived.Test.YtglaeambknhjlaaGreatDoorCShowNumbers13
import Derived.Test.YtglaeambknhjlaaGreatDoorCShowNumbers16
set_option linter.unusedVariables false
set_option linter.unusedSimpArgs false
set_option exponentiation.threshold 20001
set_option maxHeartbeats 8000000
set_option maxRecDepth 100000
section
namespace Go.Proofs.ZQ
open Go.RowKit Go.Proofs.ZW.Wa Go.Proofs.ZP
theorem tenR_inv (m:Int):tenR (-m)=(tenR m)⁻¹:=by
 unfold tenR
 rcases Int.lt_trichotomy m 0 with h|h|h
 ·rw [if_neg (by omega),if_pos h,Rat.inv_inv,Int.natAbs_neg]
 ·subst h; simp; first|rfl|decide|grind
 ·rw [if_pos (by omega),if_neg (by omega),Int.natAbs_neg]
theorem tenR_ne (m:Int):tenR m≠0:=by
 unfold tenR
 split
 ·intro h
  have h2:((((10:Int)^m.natAbs:Int):Rat)⁻¹)⁻¹=0:=by rw [h,Rat.inv_zero]
  rw [Rat.inv_inv] at h2
  exact ten_ne _ h2
 ·exact ten_ne _
theorem tenR_parts (m:Int):(tenR m).num=((10^(m.toNat):Nat):Int)∧(tenR m).den=10^((-m).toNat):=by
 by_cases h:m<0
 ·obtain ⟨q,rfl⟩:∃ q:Nat,m = -(q:Int):=⟨(-m).toNat,by omega⟩
  have hp:0<10^q:=Nat.pow_pos (by decide)
  obtain ⟨h1,h2,h3⟩:=zbO false 1 (10^q) hp
  have e1:sgn false 1=1:=rfl
  rw [e1] at h1 h2 h3
  rw [tenR_neg q (by omega)]
  rw [Nat.gcd_one_left,Nat.div_one] at h1
  rw [Nat.gcd_one_left,Nat.div_one] at h2
  refine ⟨?_,by rw [h2]; congr 1; omega⟩
  have e2:(-(q:Int)).toNat=0:=by omega
  rw [e2,Nat.pow_zero]
  have h4:decide ((Rat.divInt 1 ((10^q:Nat):Int)).num<0)=(false && decide (1≠0)):=h3
  have h5:=of_decide_eq_false (h4.trans (Bool.false_and _))
  omega
 ·obtain ⟨q,rfl⟩:∃ q:Nat,m=(q:Int):=⟨m.toNat,by omega⟩
  have e:tenR (q:Int)=(((10:Int)^q:Int):Rat):=by unfold tenR; rw [if_neg (by omega),Int.natAbs_natCast]
  rw [e,show (-(q:Int)).toNat=0 by omega,Int.toNat_natCast]
  refine ⟨?_,rfl⟩
  show (10:Int)^q=_
  rw [Int.natCast_pow]; rfl
theorem tenR_sz (m:Int) (k:Nat) (h:m.natAbs<k):Sz k (tenR m):=by
 obtain ⟨h1,h2⟩:=tenR_parts m
 refine ⟨?_,?_⟩
 ·rw [h1,Int.natAbs_natCast,T_ten_size]; omega
 ·rw [h2,T_ten_size]; omega
theorem size_ge {n:Nat} (h:0<n):10^((T n).size-1)≤n:=by
 rcases Nat.lt_or_ge 1 (T n).size with h1|h1
 ·have:=(zaM (k:=(T n).size-1) (n:=n) (by omega))
  exact Nat.not_lt.1 (fun e=>by have:=this.2 e; omega)
 ·rw [show (T n).size-1=0 by omega]; omega
theorem size_lt (n:Nat):n<10^(T n).size:=(zaM (za2 n)).1 (Nat.le_refl _)
theorem exp_low {x:Rat} (hp:0<x.num):0≤cmpR x (tenR (((T x.num.natAbs).size:Int)-((T x.den).size:Int)-1)):=by
 have ha:=size_ge (n:=x.num.natAbs) (by omega)
 have hb:=size_lt x.den
 have hsa:=za2 x.num.natAbs
 obtain ⟨a,hxa⟩:∃ a:Nat,x.num=(a:Int):=⟨x.num.natAbs,by omega⟩
 have hna:x.num.natAbs=a:=by omega
 rw [hna] at ha hsa ⊢
 generalize (T a).size=sa at *
 generalize (T x.den).size=sb at *
 obtain ⟨h1,h2⟩:=tenR_parts ((sa:Int)-sb-1)
 unfold cmpR
 rw [h1,h2,hxa]
 have key:10^(((sa:Int)-sb-1).toNat)*x.den≤a*10^((-((sa:Int)-sb-1)).toNat):=by
  by_cases hc:0≤(sa:Int)-sb-1
  ·have e1:(-((sa:Int)-sb-1)).toNat=0:=by omega
   have e2:sa-1=((sa:Int)-sb-1).toNat+sb:=by omega
   rw [e1,Nat.pow_zero,Nat.mul_one]
   refine Nat.le_trans (Nat.mul_le_mul_left _ (Nat.le_of_lt hb)) ?_
   rw [←Nat.pow_add,←e2]; exact ha
  ·have e1:((sa:Int)-sb-1).toNat=0:=by omega
   have e2:sb=(sa-1)+(-((sa:Int)-sb-1)).toNat:=by omega
   rw [e1,Nat.pow_zero,Nat.one_mul]
   refine Nat.le_trans (Nat.le_of_lt hb) ?_
   conv=>lhs; rw [e2]
   rw [Nat.pow_add]
   exact Nat.mul_le_mul_right _ ha
 have hsg:=fun q:Int=>Int.sign_trichotomy q
 refine Int.not_lt.1 (fun e => ?_)
 have e2:=Int.sign_neg_iff.1 e
 clear hsg
 have k2:(((10^(((sa:Int)-sb-1).toNat)*x.den:Nat)):Int)≤((a*10^((-((sa:Int)-sb-1)).toNat):Nat):Int):=by exact_mod_cast key
 rw [Int.natCast_mul,Int.natCast_mul] at k2
 omega
theorem exponent_ev {x:Rat} (hp:0<x.num) (hs:Sz 600 x):Ev (fun k=>c5_exponent.f k (Fr x).1 (Fr x).2.1 (Fr x).2.2) (expR x):=by
 have hs1:=hs.1
 have hs2:=hs.2
 have hlow:=exp_low hp
 have hV:expR x=if cmpR x (tenR (((T x.num.natAbs).size:Int)-((T x.den).size:Int)))<0 then ((T x.num.natAbs).size:Int)-((T x.den).size:Int)-1 else ((T x.num.natAbs).size:Int)-((T x.den).size:Int):=rfl
 have hF:∀ k,c5_exponent.f k (Fr x).1 (Fr x).2.1 (Fr x).2.2=c5_exponent.l0 k (wrap64 (((T x.num.natAbs).size:Int)-((T x.den).size:Int))) (Fr x).1 (Fr x).2.1 (Fr x).2.2:=fun k=>rfl
 refine Ev.congr hF ?_
 rw [hV]
 clear hV hF
 generalize hE:((T x.num.natAbs).size:Int)-((T x.den).size:Int)=e at *
 have hel : -600≤e∧e≤600:=by omega
 have hw0:wrap64 e=e:=by unfold wrap64; omega
 have hw1:wrap64 (e-1)=e-1:=by unfold wrap64; omega
 have hs7:Sz 700 x:=⟨by omega,by omega⟩
 have h1:=ten_f e (by omega) (by omega)
 have h2:=ten_f (e-1) (by omega) (by omega)
 have c1:=FCmp_Fr (k:=700) hs7 (tenR_sz e 700 (by omega)) (by decide)
 have c2:=FCmp_Fr (k:=700) hs7 (tenR_sz (e-1) 700 (by omega)) (by decide)
 rw [hw0]
 by_cases hc:cmpR x (tenR e)<0
 ·rw [if_pos hc]
  refine Ev.step (f:=fun k=>c5_exponent.l0 k (e-1) (Fr x).1 (Fr x).2.1 (Fr x).2.2) (fun k => ?_) (Ev.step (f:=fun _=>some (e-1)) (fun k => ?_) (Ev.now _))
  ·simp only [c5_exponent.l0]
   rw [h1,Option.bind_some,c1,Option.bind_some,if_neg (by omega),hw1]
  ·simp only [c5_exponent.l0]
   rw [h2,Option.bind_some,c2,Option.bind_some,if_pos (by omega)]
 ·rw [if_neg hc]
  refine Ev.step (f:=fun _=>some e) (fun k => ?_) (Ev.now _)
  simp only [c5_exponent.l0]
  rw [h1,Option.bind_some,c1,Option.bind_some,if_pos (by omega)]
theorem even_T {y:Rat} (hs:Sz 100000 y):c5_even.f (Fr y).1 (Fr y).2.1 (Fr y).2.2=some (T (near y.num.natAbs y.den)):=by
 have ha:=hs.1
 have hb:=hs.2
 have h:=y.den_pos
 show c5_even.f _ (T y.num.natAbs) (T y.den)=_
 generalize (Fr y).1=sg
 generalize y.num.natAbs=a at *
 generalize y.den=b at *
 have hr:(T (a%b)).size≤100000:=Nat.le_trans (za0 (Nat.mod_le a b)) ha
 have hq:(T (a/b)).size≤100000:=Nat.le_trans (za0 (Nat.div_le_self a b)) ha
 have h1:(T 1).size≤100000:=by rw [←T_1]; decide
 have hr2:(T (a%b+a%b)).size≤137438953472:=by
  have e:a%b+a%b=a%b*2:=by omega
  have:=zaR (a%b) 2
  have e2:(T 2).size=1:=by rw [←T_2]; rfl
  rw [e]; omega
 have hp:=T_last (a/b)
 have ho:=T_odd (a/b)
 unfold c5_even.f
 rw [zce (by omega) (by omega) h,Option.bind_some]
 simp only [T_1]
 rw [Plus_T (by omega) (by omega),Option.bind_some,Compare_T (by omega) (by omega),Option.bind_some,Plus_T (by omega) (by omega),Option.bind_some]
 have hw:wrap64 (((T (a/b)).size:Int)-1)=((T (a/b)).size:Int)-1:=by unfold wrap64; omega
 rw [hw]
 unfold near
 rcases Nat.lt_trichotomy (a%b+a%b) b with hlt|hE|hgt
 ·have hc:cmpN (a%b+a%b) b = -1:=if_pos hlt
  rw [hc,if_neg (by decide),if_neg (by decide),if_neg (by omega)]
 ·have hc:cmpN (a%b+a%b) b=0:=(if_neg (by omega)).trans (if_neg (by omega))
  rw [hc,if_neg (by decide),if_pos rfl,if_pos (by omega),if_pos (by omega)]
  by_cases h5:a/b%2=1
  ·rw [if_pos (ho.2 h5),if_pos (by omega)]
  ·rw [if_neg (fun e=>h5 (ho.1 e)),if_neg (by omega)]
 ·have hc:cmpN (a%b+a%b) b=1:=(if_neg (by omega)).trans (if_pos hgt)
  rw [hc,if_pos (by decide),if_pos (by omega)]
theorem even_W {y:Rat} (hs:Sz 100000 y) (hp:0≤y.num):c5_even.f (Fr y).1 (Fr y).2.1 (Fr y).2.2=some (wtext (evenR y)):=by
 have e:evenR y=((near y.num.natAbs y.den:Nat):Int):=by
  rw [even_near,decide_eq_false (by omega)]; rfl
 rw [even_T hs,e,zaN (by omega),Int.natAbs_natCast]
theorem fzero_ans {x:Rat} (h:x≠0):Ans 87 #[FrV x] (.bool false):=fun W=>by
 refine c1_FZero.calls _ _ _ false W ?_
 unfold c1_FZero.f
 congr 1
 refine beq_eq_false_iff_ne.2 (fun e => ?_)
 have h1:=T_inj (b48.1 e)
 exact num_ne h (by omega)
theorem fsize_ans (x:Rat):Ans 82 #[FrV x] (FrV x.abs):=fun W=>by
 refine c1_FSize.calls _ _ _ _ _ _ W ?_
 obtain ⟨e1,e2⟩:=zc4 x
 unfold c1_FSize.f Fr
 dsimp only
 rw [e1,e2,Int.natAbs_natCast,decide_eq_false (by omega)]
theorem exponent_ans {x:Rat} (hp:0<x.num) (hs:Sz 600 x):Ans 171 #[FrV x] (.int .i64 (expR x)):=fun W=>by
 obtain ⟨k,hk⟩:=(exponent_ev hp hs).rounds
 exact c5_exponent.calls k _ _ _ _ W hk
theorem rten_ans (n:Int) (h0 : -100000≤n) (h1:n≤100000):Ans 174 #[.int .i64 n] (FrV (tenR n)):=fun W=>c5_ten.calls n _ _ _ W (ten_f n h0 h1)
theorem fquo_ans {x y:Rat} {k:Nat} (hx:Sz k x) (hy:Sz k y) (h0:y≠0) (hk:k≤1000000):Ans 173 #[FrV x,FrV y] (FrV (x/y)):=fun W=>c1_FQuo.calls _ _ _ _ _ _ _ _ _ W (FQuo_Fr hx hy h0 hk)
theorem even_ans {y:Rat} (hs:Sz 100000 y) (hp:0≤y.num):Ans 172 #[FrV y] (.string (wtext (evenR y))):=fun W=>c5_even.calls _ _ _ _ W (even_W hs hp)
end Go.Proofs.ZQ
end
section
namespace Go.Proofs.ZQ
open Go.RowKit Go.Proofs.ZW.Wa Go.Proofs.ZP Go.Proofs.ZW.Wb Go.Proofs.ZW.Wc
theorem told_walk (s:Bool) (a b:ByteArray) (p0 q0 r0:Bool) (p1 p2 q1 q2 r1 r2 d pl:ByteArray) (e n:Int) (w:World) (hn:1≤n∧n≤40) (he : -5000≤e∧e≤5000) (hps:pl.size≤1000000)
  (HZ:Ans 87 #[.agg #[.bool s,.string a,.string b]] (.bool false)) (HF:Ans 82 #[.agg #[.bool s,.string a,.string b]] (.agg #[.bool p0,.string p1,.string p2])) (HE:Ans 171 #[.agg #[.bool p0,.string p1,.string p2]] (.int .i64 e)) (HT:Ans 174 #[.int .i64 (e-n+1)] (.agg #[.bool q0,.string q1,.string q2])) (HQ:Ans 173 #[.agg #[.bool p0,.string p1,.string p2],.agg #[.bool q0,.string q1,.string q2]] (.agg #[.bool r0,.string r1,.string r2])) (HV:Ans 172 #[.agg #[.bool r0,.string r1,.string r2]] (.string d))
  (HL:∀ W,Below w.heap.size w W→Calls Tryz.prog 175 #[.string (if n<(d.size:Int) then d.extract 0 n.toNat else d),.int .i64 (if n<(d.size:Int) then e+1 else e)] W fun r w'=>r = .returned (.string pl)∧Below W.heap.size W w') :
  Calls Tryz.prog 93 #[.agg #[.bool s,.string a,.string b],.int .i64 n] w fun r w'=>r = .returned (.string ((if s=true then (⟨#[45]⟩:ByteArray) else ⟨#[]⟩)++pl))∧Below w.heap.size w w':=by
 have HZ:=Lib.hid HZ
 have HF:=Lib.hid HF
 have HE:=Lib.hid HE
 have HT:=Lib.hid HT
 have HQ:=Lib.hid HQ
 have HV:=Lib.hid HV
 have HL:=Lib.hid HL
 have HPS:=Lib.hid hps
 have hw0:wrap64 (e-n)=e-n:=by unfold wrap64; omega
 have hw1:wrap64 (e-n+1)=e-n+1:=by unfold wrap64; omega
 have hw2:wrap64 (e+1)=e+1:=by unfold wrap64; omega
 have hw4:IntKind.i64.wrap (e-n+1)=e-n+1:=IntWalk.i64_in _ (by omega)
 have hw3:IntKind.i64.wrap (IntKind.i64.wrap (e-n)+1)=e-n+1:=by rw [IntWalk.i64_in (e-n) (by omega)]; exact hw4
 have hn0:(0:Int)≤n:=by omega
 clear hn he hps
 go_enter Tryz.func93,Tryz.ntmps93
 have fa:=FcAt.new w s a b
 have hba:=zab (Below.refl w.heap.size w) (.cells #[.bool s,.string a,.string b] 28)
 go_wp2_with fail
 generalize w.alloc (.cells #[.bool s,.string a,.string b] 28)=W0 at *
 have HFA:=Lib.hid fa
 have HBA:=Lib.hid hba
 have c0:=fa.c0
 have c1:=fa.c1
 have c2:=fa.c2
 have g0:=zaj fa 0
 clear fa hba
 go_wp2_with fail
 refine (HZ.out _).mono ?_
 rintro r v1 ⟨rfl,hb⟩
 replace HFA:=Lib.hid (HFA.out.below hb)
 replace HBA:=Lib.hid (bthen HBA.out hb)
 clear hb c0 c1 c2 g0
 have c0:=HFA.out.c0
 have c1:=HFA.out.c1
 have c2:=HFA.out.c2
 cases s
 all_goals
  go_wp2_with fail
  refine (HF.out _).mono ?_
  rintro r v2 ⟨rfl,hb⟩
  replace HFA:=Lib.hid (HFA.out.below hb)
  replace HBA:=Lib.hid (bthen HBA.out hb)
  clear hb c0 c1 c2
  have c0:=HFA.out.c0
  have c1:=HFA.out.c1
  have c2:=HFA.out.c2
  have g0:=zaj HFA.out 0
  have g1:=zaj HFA.out 1
  have g2:=zaj HFA.out 2
  obtain ⟨hF,hBF⟩:=zcX HFA.out HBA.out (Nat.le_refl _) p0 p1 p2
  replace HFA:=Lib.hid hF
  replace HBA:=Lib.hid hBF
  clear hF hBF
  go_wp2_with fail
  clear c0 c1 c2 g0 g1 g2
  generalize World.setCell _ _ _=v3 at HFA HBA ⊢
  have c0:=HFA.out.c0
  have c1:=HFA.out.c1
  have c2:=HFA.out.c2
  go_wp2_with fail
  refine (HE.out _).mono ?_
  rintro r v4 ⟨rfl,hb⟩
  replace HFA:=Lib.hid (HFA.out.below hb)
  replace HBA:=Lib.hid (bthen HBA.out hb)
  clear hb c0 c1 c2
  have HK:=Lib.hid (show ∀ W':World,Below v4.heap.size v4 W'→W'.cell? ⟨w.heap.size,0,none⟩=some (.bool p0)∧W'.cell? ⟨w.heap.size,1,none⟩=some (.string p1)∧W'.cell? ⟨w.heap.size,2,none⟩=some (.string p2) from fun W' h=>⟨(HFA.out.below h).c0,(HFA.out.below h).c1,(HFA.out.below h).c2⟩)
  go_wp2_with fail
  go_region_held3 (fun w'=>w'.cell? ⟨w.heap.size,0,none⟩=some (.bool p0)∧w'.cell? ⟨w.heap.size,1,none⟩=some (.string p1)∧w'.cell? ⟨w.heap.size,2,none⟩=some (.string p2))
   (first|((with_reducible refine HK.out _ ?_); repeat (with_reducible first|exact Below.refl _ _|apply zar|apply zaa|refine bthen ?_ hb3|refine bthen ?_ hb2|refine bthen ?_ hb1)))
   ((first
   | (go_simp; go_at_call 174; (first|(with_reducible change Calls _ _ #[.int .i64 (e-n+1)] _ _)|(with_reducible change Calls _ _ #[.int .i64 (IntKind.i64.wrap (IntKind.i64.wrap (e-n)+1))] _ _; rw [hw3])|(with_reducible change Calls _ _ #[.int .i64 (IntKind.i64.wrap (e-n+1))] _ _; rw [hw4])|(with_reducible change Calls _ _ #[.int .i64 (wrap64 (e-n+1))] _ _; rw [hw1])|(with_reducible change Calls _ _ #[.int .i64 (wrap64 (wrap64 (e-n)+1))] _ _; rw [hw0,hw1])); refine (HT.out _).mono ?_; rintro r w1 ⟨rfl,hb1⟩)
   | (go_simp; go_at_call 173; (with_reducible change Calls _ _ #[.agg #[.bool p0,.string p1,.string p2],.agg #[.bool q0,.string q1,.string q2]] _ _); refine (HQ.out _).mono ?_; rintro e w2 ⟨rfl,hb2⟩)
   | (go_simp; go_at_call 172; (with_reducible change Calls _ _ #[.agg #[.bool r0,.string r1,.string r2]] _ _); refine (HV.out _).mono ?_; rintro e w3 ⟨rfl,hb3⟩)
   ))
  all_goals
   rename_i hHeld
   clear hHeld HK
   have HB4:=Lib.hid (bthen HBA.out (show Below v4.heap.size v4 w3 from by repeat (with_reducible first|exact Below.refl _ _|apply zar|apply zaa|refine bthen ?_ hb3|refine bthen ?_ hb2|refine bthen ?_ hb1)))
   clear hb1 hb2 hb3 HT HQ HV
   by_cases hd:n<(d.size:Int)
   ·have hle:n≤(d.size:Int):=by omega
    rw [if_pos hd,if_pos hd] at HL
    go_wp2_with fail
    refine (HL.out _ HB4.out).mono ?_
    rintro r w5 ⟨rfl,hb5⟩
    have HB5:=Lib.hid (bthen HB4.out hb5)
    clear hb5
    have hps:=HPS.out
    go_wp2
    go_ret
    exact ⟨rfl,HB5.out⟩
   ·rw [if_neg hd,if_neg hd] at HL
    go_wp2_with fail
    refine (HL.out _ HB4.out).mono ?_
    rintro r w5 ⟨rfl,hb5⟩
    have HB5:=Lib.hid (bthen HB4.out hb5)
    clear hb5
    have hps:=HPS.out
    go_wp2
    go_ret
    exact ⟨rfl,HB5.out⟩
theorem rnum_no (a b u v:ByteArray) (s:Bool) (n:Int) (HA:Ans 22 #[.agg #[.string a,.string b]] (.tuple #[.agg #[.bool s,.string u,.string v],.bool false])):Ans 20 #[.agg #[.string a,.string b],.int .i64 n] (.tuple #[.string ⟨#[]⟩,.int .i64 3]):=by
 intro w
 have HA:=Lib.hid HA
 go_enter Tryz.func20,Tryz.ntmps20
 have fa:=RbAt.new w a b
 have hba:=zab (Below.refl w.heap.size w) (.cells #[.string a,.string b] 23)
 go_wp2_with fail
 generalize w.alloc (.cells #[.string a,.string b] 23)=W0 at *
 have c0:=fa.c0
 have c1:=fa.c1
 have HBA:=Lib.hid hba
 clear hba fa
 go_wp2_with fail
 refine (HA.out _).mono ?_
 rintro e w1 ⟨rfl,hb⟩
 replace HBA:=Lib.hid (bthen HBA.out hb)
 clear hb c0 c1
 have hbx:=zab HBA.out (.cells #[.bool s,.string u,.string v] 28)
 replace HBA:=Lib.hid hbx
 clear hbx
 go_wp2
 go_ret2
 exact ⟨rfl,HBA.out⟩
theorem rnum_arg (a b u v:ByteArray) (s:Bool) (n:Int) (hn:n<1∨40<n) (HA:Ans 22 #[.agg #[.string a,.string b]] (.tuple #[.agg #[.bool s,.string u,.string v],.bool true])):Ans 20 #[.agg #[.string a,.string b],.int .i64 n] (.tuple #[.string ⟨#[]⟩,.int .i64 1]):=by
 have HN:=Lib.hid hn
 clear hn
 intro w
 have HA:=Lib.hid HA
 go_enter Tryz.func20,Tryz.ntmps20
 have fa:=RbAt.new w a b
 have hba:=zab (Below.refl w.heap.size w) (.cells #[.string a,.string b] 23)
 go_wp2_with fail
 generalize w.alloc (.cells #[.string a,.string b] 23)=W0 at *
 have c0:=fa.c0
 have c1:=fa.c1
 have HBA:=Lib.hid hba
 clear hba fa
 go_wp2_with fail
 refine (HA.out _).mono ?_
 rintro e w1 ⟨rfl,hb⟩
 replace HBA:=Lib.hid (bthen HBA.out hb)
 clear hb c0 c1
 have hbx:=zab HBA.out (.cells #[.bool s,.string u,.string v] 28)
 replace HBA:=Lib.hid hbx
 clear hbx
 by_cases h1:n<1
 ·go_wp2
  go_ret2
  exact ⟨rfl,HBA.out⟩
 ·have h2:n>40:=by have:=HN.out; omega
  go_wp2
  go_ret2
  exact ⟨rfl,HBA.out⟩
theorem rnum_ok (a b u v t:ByteArray) (s:Bool) (n:Int) (w:World) (h0:1≤n) (h1:n≤40) (HA:Ans 22 #[.agg #[.string a,.string b]] (.tuple #[.agg #[.bool s,.string u,.string v],.bool true]))
  (HT:∀ W,Below w.heap.size w W→Calls Tryz.prog 93 #[.agg #[.bool s,.string u,.string v],.int .i64 n] W fun r w'=>r = .returned (.string t)∧Below W.heap.size W w') :
  Calls Tryz.prog 20 #[.agg #[.string a,.string b],.int .i64 n] w fun r w'=>r = .returned (.tuple #[.string t,.int .i64 0])∧Below w.heap.size w w':=by
 have k1:¬ n<1:=by omega
 have k2:¬ n>40:=by omega
 clear h0 h1
 have HA:=Lib.hid HA
 have HT:=Lib.hid HT
 go_enter Tryz.func20,Tryz.ntmps20
 have fa:=RbAt.new w a b
 have hba:=zab (Below.refl w.heap.size w) (.cells #[.string a,.string b] 23)
 go_wp2_with fail
 generalize w.alloc (.cells #[.string a,.string b] 23)=W0 at *
 have c0:=fa.c0
 have c1:=fa.c1
 have HBA:=Lib.hid hba
 clear hba fa
 go_wp2_with fail
 refine (HA.out _).mono ?_
 rintro e w1 ⟨rfl,hb⟩
 replace HBA:=Lib.hid (bthen HBA.out hb)
 clear hb c0 c1
 have fx:=FcAt.new w1 s u v
 have hbx:=zab HBA.out (.cells #[.bool s,.string u,.string v] 28)
 replace HBA:=Lib.hid hbx
 have c0:=fx.c0
 have c1:=fx.c1
 have c2:=fx.c2
 clear hbx fx
 go_wp2_with fail
 refine (HT.out _ HBA.out).mono ?_
 rintro e w2 ⟨rfl,hb⟩
 replace HBA:=Lib.hid (bthen HBA.out hb)
 clear hb c0 c1 c2
 go_wp2
 go_ret2
 exact ⟨rfl,HBA.out⟩
theorem told_zero (a b:ByteArray) (s:Bool) (n:Int) (HZ:Ans 87 #[.agg #[.bool s,.string a,.string b]] (.bool true)):Ans 93 #[.agg #[.bool s,.string a,.string b],.int .i64 n] (.string ⟨#[48]⟩):=by
 intro w
 have HZ:=Lib.hid HZ
 go_enter Tryz.func93,Tryz.ntmps93
 have fa:=FcAt.new w s a b
 have hba:=zab (Below.refl w.heap.size w) (.cells #[.bool s,.string a,.string b] 28)
 go_wp2_with fail
 generalize w.alloc (.cells #[.bool s,.string a,.string b] 28)=W0 at *
 have HBA:=Lib.hid hba
 have c0:=fa.c0
 have c1:=fa.c1
 have c2:=fa.c2
 clear fa hba
 go_wp2_with fail
 refine (HZ.out _).mono ?_
 rintro r w1 ⟨rfl,hb⟩
 replace HBA:=Lib.hid (bthen HBA.out hb)
 clear hb c0 c1 c2
 go_wp2
 go_ret
 exact ⟨rfl,HBA.out⟩
end Go.Proofs.ZQ
end
section
namespace Go.Proofs.ZQ
open Go.RowKit Go.Proofs.ZW.Wa Go.Proofs.ZW.Wb Go.Proofs.ZW.Wc
attribute [local go_sem] zaE zaD zaL zaK zaC zaB zaH zaG
noncomputable def c5_noughts.l0:Nat→Int→ByteArray→Int→Option (ByteArray)
 | 0,_,_,_=>none
 | k+1,x0,x3,x4=>if x4<x0 then (if x3.size+1≤9223372036854775807 then (c5_noughts.l0 k x0 (x3++(⟨#[48]⟩:ByteArray)) (wrap64 (x4+1))) else (none)) else (some x3)
noncomputable def c5_noughts.f (k:Nat) (a0:Int):Option (ByteArray):=c5_noughts.l0 k a0 (⟨#[]⟩:ByteArray) 0
theorem c5_noughts.calls (k:Nat) (a0:Int) (r:ByteArray) (w:World) (h:c5_noughts.f k a0=some r) :
  Calls Tryz.prog 223 #[.int .i64 a0] w fun e w'=>e = .returned (.string r)∧Drawn0 w w':=by
 have H:(c5_noughts.l0 k a0 (⟨#[]⟩:ByteArray) 0)=some r:=h
 clear h
 have H':=Aside0.mk H
 clear H
 go_enter Tryz.func223,Tryz.ntmps223
 go_wp2
 go_loopg [3,4] k (fun kq v3 v4 w'=>∃ (x3_1:ByteArray) (x4_1:Int),v3 = .string x3_1∧v4 = .int .i64 x4_1∧Aside0 (c5_noughts.l0 kq a0 x3_1 x4_1=some r)∧Aside0 (kq≤k)∧Drawn0 w w')
 case atStart=>exact ⟨((⟨#[]⟩:ByteArray)),(0),(by first|rfl|(simp; done)|(simp [*]; done)),(by first|rfl|(simp; done)|(simp [*]; done)),H',⟨Nat.le_refl _⟩,by repeat (first|exact Drawn0.refl _|apply Drawn0.step)⟩
 case round =>
  clear H'
  obtain ⟨x3_1,x4_1,rfl,rfl,HA,HK1,⟨m1,rfl⟩⟩:=hrel
  cases gk with
  | zero=>exact absurd HA.out (by simp [c5_noughts.l0])
  | succ k1 =>
   have H:=HA.out
   clear HA
   simp only [c5_noughts.l0] at H
   by_cases c2:x4_1<a0
   ·rw [if_pos c2] at H
    have c2b0:decide (x4_1<a0)=true:=decide_eq_true c2
    clear c2
    by_cases c3:x3_1.size+1≤9223372036854775807
    ·rw [if_pos c3] at H
     have c3b0:=eq_true c3
     have c3b1:decide (x3_1.size+1≤9223372036854775807)=true:=decide_eq_true c3
     try have c3b2:(9223372036854775807<x3_1.size+1)=False:=eq_false (Nat.not_lt.2 c3)
     have H':=Aside0.mk H
     clear H
     go_wp2
     go_roundg k1
     case measure=>have:=HK1.out; omega
     case rel=>exact ⟨(x3_1++(⟨#[48]⟩:ByteArray)),(wrap64 (x4_1+1)),(by first|rfl|(simp; done)|(simp [*]; done)),(by first|rfl|(simp; done)|(simp [*]; done)),H',⟨by have:=HK1.out; omega⟩,by repeat (first|exact Drawn0.refl _|apply Drawn0.step)⟩
    ·rw [if_neg c3] at H
     exact absurd H (by simp)
   ·rw [if_neg c2] at H
    have c2b0:decide (x4_1<a0)=false:=decide_eq_false c2
    clear c2
    obtain rfl:=Option.some.inj H
    go_wp2
    go_ret
    exact ⟨by first|rfl|(simp; done)|(simp [*]; done),by repeat (first|exact Drawn0.refl _|apply Drawn0.step)⟩
end Go.Proofs.ZQ
end
section
namespace Go.Proofs.ZQ
open Go.RowKit Go.Proofs.ZW.Wa Go.Proofs.ZP Go.Proofs.ZW.Wb Go.Proofs.ZW.Wc
attribute [local go_sem] zaE zaD zaL zaK
theorem noughts_ev (c:Nat) (hc:c≤100000):∀ m i,i+m=c→Ev (fun k=>c5_noughts.l0 k c (zer i) i) (zer c):=by
 intro m
 induction m with
 | zero =>
  intro i hi
  refine Ev.step (f:=fun _=>some (zer c)) (fun k => ?_) (Ev.now _)
  simp only [c5_noughts.l0]
  rw [if_neg (by omega),show i=c by omega]
 | succ m ih =>
  intro i hi
  refine Ev.step (f:=fun k=>c5_noughts.l0 k c (zer (i+1)) ((i+1:Nat):Int)) (fun k => ?_) (ih (i+1) (by omega))
  simp only [c5_noughts.l0]
  have hz:zer i++(⟨#[48]⟩:ByteArray)=zer (i+1):=by
   apply ByteArray.ext
   unfold zer
   rw [ByteArray.data_append]
   apply Array.toList_inj.1
   rw [Array.toList_append,List.replicate_succ']
  have hw:wrap64 ((i:Int)+1)=((i+1:Nat):Int):=by unfold wrap64; omega
  rw [if_pos (by omega),if_pos (by rw [zbx]; omega),hz,hw]
theorem noughts_ans (c:Nat) (hc:c≤100000):Ans 223 #[.int .i64 c] (.string (zer c)):=by
 intro W
 obtain ⟨k,hk⟩:=noughts_ev c hc c 0 (by omega)
 exact (c5_noughts.calls k c (zer c) W (hk k (Nat.le_refl _))).mono fun e w' h=>⟨h.1,h.2.below⟩
theorem laid_exp (d it:ByteArray) (e:Int) (w:World) (hd:1≤d.size∧d.size≤5000) (hit:it.size≤1000) (he:e < -5∨max (d.size:Int) 6≤e) (hl : -100000≤e∧e≤100000) (HI:Calls Tryz.prog 170 #[.int .i64 e] w fun r w'=>r = .returned (.string it)∧Below w.heap.size w w') :
  Calls Tryz.prog 175 #[.string d,.int .i64 e] w fun r w'=>r = .returned (.string (plcR d e it))∧Below w.heap.size w w':=by
 have HV:=Lib.hid (show plcR d e it=_ from if_pos he)
 have HI:=Lib.hid HI
 have hle1:(1:Int)≤(d.size:Int):=by omega
 have hx0:(d.extract 0 1).size=1:=by rw [ByteArray.size_extract]; omega
 have hx1:(d.extract 1 d.size).size=d.size-1:=by rw [ByteArray.size_extract]; omega
 have hs1:(⟨#[46]⟩:ByteArray).size+(d.extract 1 d.size).size≤9223372036854775807:=by rw [hx1]; show 1+_≤_; omega
 have hs2:(d.extract 0 1).size+((⟨#[46]⟩:ByteArray)++d.extract 1 d.size).size≤9223372036854775807:=by rw [ByteArray.size_append,hx0,hx1]; show 1+(1+_)≤_; omega
 rcases (show ((e < -5∧(d.size:Int)<6)∨(e < -5∧¬ (d.size:Int)<6)∨(¬ e < -5∧(d.size:Int)<6)∨(¬ e < -5∧¬ (d.size:Int)<6)) by omega) with ⟨h5,h6⟩|⟨h5,h6⟩|⟨h5,h6⟩|⟨h5,h6⟩<;>rcases (show (d.size:Int)>1∨¬ (d.size:Int)>1 by omega) with h1|h1
 all_goals try (exfalso; omega)
 all_goals
  try (have h7:e≥6:=by omega)
  try (have h8:e≥(d.size:Int):=by omega)
  go_enter Tryz.func175,Tryz.ntmps175
  go_wp2_with fail
  refine HI.out.mono ?_
  rintro r w1 ⟨rfl,hb⟩
  have HB:=Lib.hid hb
  clear hb
  go_wp2
  go_ret
  exact ⟨by rw [HV.out]; first|(rw [if_pos (by omega),←ByteArray.append_assoc]; rfl)|(rw [if_neg (by omega)]; rfl),HB.out⟩
theorem laid_low (d it:ByteArray) (e:Int) (w:World) (hd:1≤d.size∧d.size≤5000) (he : -5≤e∧e<0) :
  Calls Tryz.prog 175 #[.string d,.int .i64 e] w fun r w'=>r = .returned (.string (plcR d e it))∧Below w.heap.size w w':=by
 have hne:¬ (e < -5∨max (d.size:Int) 6≤e):=by omega
 have HV:=Lib.hid (show plcR d e it=_ from (if_neg hne).trans (if_pos he.2))
 obtain ⟨c,hc⟩:∃ c:Nat,-e-1=(c:Int):=⟨(-e-1).toNat,by omega⟩
 have HR:=Lib.hid (noughts_ans c (by omega))
 have hcz:(-e-1).toNat=c:=by omega
 rw [hcz] at HV
 have hzs:=zbx c
 have hw1:wrap64 (-e) = -e:=by unfold wrap64; omega
 have hw2:wrap64 (-e-1) = -e-1:=by unfold wrap64; omega
 have hs1:(⟨#[48,46]⟩:ByteArray).size+(zer c).size≤9223372036854775807:=by rw [hzs]; show 2+_≤_; omega
 have hs2:2+(zer c).size≤9223372036854775807:=by rw [hzs]; omega
 have hs3:2+(zer c).size+d.size≤9223372036854775807:=by rw [hzs]; omega
 have hs4:((⟨#[48,46]⟩:ByteArray)++zer c).size+d.size≤9223372036854775807:=by rw [ByteArray.size_append,hzs]; show 2+_+_≤_; omega
 have HC:=Lib.hid hc
 have h5:¬ e < -5:=by omega
 have h6:¬ e≥6:=by omega
 have h7:¬ e≥(d.size:Int):=by omega
 have h8:e<0:=he.2
 clear hne hc hcz hzs
 rcases (show (d.size:Int)<6∨¬ (d.size:Int)<6 by omega) with h9|h9
 all_goals
  go_enter Tryz.func175,Tryz.ntmps175
  go_wp2_with fail
  rw [HC.out]
  refine (HR.out _).mono ?_
  rintro r w1 ⟨rfl,hb⟩
  have HB:=Lib.hid hb
  clear hb
  go_wp2
  go_ret
  exact ⟨by rw [HV.out]; rfl,HB.out⟩
theorem laid_long (d it:ByteArray) (e:Int) (w:World) (hd:1≤d.size∧d.size≤5000) (he:0≤e∧e<max (d.size:Int) 6) (hl:(d.size:Int)-1≤e) :
  Calls Tryz.prog 175 #[.string d,.int .i64 e] w fun r w'=>r = .returned (.string (plcR d e it))∧Below w.heap.size w w':=by
 have hne:¬ (e < -5∨max (d.size:Int) 6≤e):=by omega
 have HV:=Lib.hid (show plcR d e it=_ from (if_neg hne).trans ((if_neg (by omega)).trans (if_pos hl)))
 obtain ⟨c,hc⟩:∃ c:Nat,e-d.size+1=(c:Int):=⟨(e-d.size+1).toNat,by omega⟩
 have HR:=Lib.hid (noughts_ans c (by omega))
 have hcz:(e-d.size+1).toNat=c:=by omega
 rw [hcz] at HV
 have hzs:=zbx c
 have hw0:wrap64 ((d.size:Int)-1)=(d.size:Int)-1:=by unfold wrap64; omega
 have hw1:wrap64 (e-d.size)=e-d.size:=by unfold wrap64; omega
 have hw2:wrap64 (e-d.size+1)=e-d.size+1:=by unfold wrap64; omega
 have hs3:d.size+(zer c).size≤9223372036854775807:=by rw [hzs]; omega
 have h5:¬ e < -5:=by omega
 have h8:¬ e<0:=by omega
 have hlt:e<6∨e<(d.size:Int):=by omega
 have hl':e≥(d.size:Int)-1:=hl
 have HC:=Lib.hid hc
 clear hne hc hcz hzs
 rcases (show ((d.size:Int)<6∧¬ e≥6)∨(¬ (d.size:Int)<6∧¬ e≥(d.size:Int)) by omega) with ⟨h9,h10⟩|⟨h9,h10⟩
 all_goals
  go_enter Tryz.func175,Tryz.ntmps175
  go_wp2_with fail
  rw [HC.out]
  refine (HR.out _).mono ?_
  rintro r w1 ⟨rfl,hb⟩
  have HB:=Lib.hid hb
  clear hb
  go_wp2
  go_ret
  exact ⟨by rw [HV.out]; rfl,HB.out⟩
theorem laid_mid (d it:ByteArray) (e:Int) (w:World) (hd:1≤d.size∧d.size≤5000) (he:0≤e∧e<max (d.size:Int) 6) (hl:¬ (d.size:Int)-1≤e) :
  Calls Tryz.prog 175 #[.string d,.int .i64 e] w fun r w'=>r = .returned (.string (plcR d e it))∧Below w.heap.size w w':=by
 have hne:¬ (e < -5∨max (d.size:Int) 6≤e):=by omega
 have HV:=Lib.hid (show plcR d e it=_ from (if_neg hne).trans ((if_neg (by omega)).trans (if_neg hl)))
 obtain ⟨K,hK⟩:∃ K:Nat,e+1=(K:Int):=⟨(e+1).toNat,by omega⟩
 have hkt:(e+1).toNat=K:=by omega
 rw [hkt] at HV
 have hw0:wrap64 ((d.size:Int)-1)=(d.size:Int)-1:=by unfold wrap64; omega
 have hw1:wrap64 (e+1)=(K:Int):=by rw [hK]; unfold wrap64; omega
 have hw2:IntKind.i64.wrap (e+1)=(K:Int):=by rw [hK]; exact IntWalk.i64_in _ (by omega)
 have hk0:(0:Int)≤(K:Int):=by omega
 have hk1:(K:Int)≤(d.size:Int):=by omega
 have hx0:(d.extract 0 K).size=K:=by rw [ByteArray.size_extract]; omega
 have hx1:(d.extract K d.size).size=d.size-K:=by rw [ByteArray.size_extract]; omega
 have hs1:(d.extract 0 K).size+1≤9223372036854775807:=by rw [hx0]; omega
 have hs2:((d.extract 0 K)++(⟨#[46]⟩:ByteArray)).size+(d.extract K d.size).size≤9223372036854775807:=by rw [ByteArray.size_append,hx0,hx1]; show K+1+_≤_; omega
 have hs3:(d.extract 0 K).size+1+(d.extract K d.size).size≤9223372036854775807:=by rw [hx0,hx1]; omega
 have hs4:min K d.size+1≤9223372036854775807:=by omega
 have hs5:min K d.size+1+(d.size-K)≤9223372036854775807:=by omega
 have h5:¬ e < -5:=by omega
 have h8:¬ e<0:=by omega
 have hl':¬ e≥(d.size:Int)-1:=hl
 have h11:e<6∨e<(d.size:Int):=by omega
 clear hne hx0 hx1 hkt hl he hd hK
 rcases (show ((d.size:Int)<6∧¬ e≥6)∨(¬ (d.size:Int)<6∧¬ e≥(d.size:Int)) by omega) with ⟨h9,h10⟩|⟨h9,h10⟩
 all_goals
  go_enter Tryz.func175,Tryz.ntmps175
  go_wp2_with fail
  first|(go_region_held (fun _=>True) (exact trivial) ((first|fail)))|fail
  all_goals
   go_wp2
   go_ret
   exact ⟨by rw [HV.out]; rfl,zar (Below.refl _ _)⟩
theorem laid_calls (d it:ByteArray) (e:Int) (w:World) (hd:1≤d.size∧d.size≤5000) (hit:it.size≤1000) (hl : -100000≤e∧e≤100000) (HI:Calls Tryz.prog 170 #[.int .i64 e] w fun r w'=>r = .returned (.string it)∧Below w.heap.size w w') :
  Calls Tryz.prog 175 #[.string d,.int .i64 e] w fun r w'=>r = .returned (.string (plcR d e it))∧Below w.heap.size w w':=by
 by_cases h1:e < -5∨max (d.size:Int) 6≤e
 ·exact laid_exp d it e w hd hit h1 hl HI
 ·by_cases h2:e<0
  ·exact laid_low d it e w hd (by omega)
  ·by_cases h3:(d.size:Int)-1≤e
   ·exact laid_long d it e w hd (by omega) h3
   ·exact laid_mid d it e w hd (by omega) h3
end Go.Proofs.ZQ
end
section
namespace Go.Proofs.ZQ
open Go.RowKit Go.Proofs.ZW.Wa Go.Proofs.ZP Go.Proofs.ZW.Wb Go.Proofs.ZW.Wc
theorem told_ok {x:Rat} {n:Int} (it:ByteArray) (w:World) (h0:1≤n) (h1:n≤40) (hz:x≠0) (hs:Sz 600 x) (hb:Bdr 2000 x) (hit:it.size≤1000) (HI:∀ W,Below w.heap.size w W→Calls Tryz.prog 170 #[.int .i64 (rndR x.abs n).2] W fun r w'=>r = .returned (.string it)∧Below W.heap.size W w') :
  Calls Tryz.prog 93 #[FrV x,.int .i64 n] w fun r w'=>r = .returned (.string ((if x.num<0 then (⟨#[45]⟩:ByteArray) else ⟨#[]⟩)++plcR (rndR x.abs n).1 (rndR x.abs n).2 it))∧Below w.heap.size w w':=by
 obtain ⟨e1,e2⟩:=zc4 x
 have hn0:=num_ne hz
 have hsz:Sz 600 x.abs:=by unfold Sz; rw [e1,e2,Int.natAbs_natCast]; exact hs
 have hbd:Bdr 2000 x.abs:=⟨by rw [e1]; exact hb.1.abs,by rw [e2]; exact hb.2⟩
 have hpos:0<x.abs.num:=by rw [e1]; omega
 have hel:=expR_le hsz
 have hrs:=rnd_size (n:=n) hsz hbd ⟨h0,h1⟩
 have hr2 : -100000≤(rndR x.abs n).2∧(rndR x.abs n).2≤100000:=by
  unfold rndR; dsimp only; split<;>(dsimp only; omega)
 have hps:=plc_size (d:=(rndR x.abs n).1) (e:=(rndR x.abs n).2) hrs hit hr2
 have hte:tenR (expR x.abs-n+1)=(tenR (n-1-expR x.abs))⁻¹:=by rw [←tenR_inv]; congr 1; omega
 have hq:x.abs/tenR (expR x.abs-n+1)=x.abs*tenR (n-1-expR x.abs):=by rw [hte,Rat.div_def,Rat.inv_inv]
 have hts:Sz 700 (tenR (expR x.abs-n+1)):=tenR_sz _ 700 (by omega)
 have hsz7:Sz 700 x.abs:=⟨by have:=hsz.1; omega,by have:=hsz.2; omega⟩
 have hqs:Sz 100000 (x.abs*tenR (n-1-expR x.abs)):=by
  have hT:=(Times_Fr hsz7 (tenR_sz (n-1-expR x.abs) 700 (by omega)) (by decide)).2
  exact ⟨Nat.le_trans hT.1 (by decide),Nat.le_trans hT.2 (by decide)⟩
 have hqn:0≤(x.abs*tenR (n-1-expR x.abs)).num:=by
  have h2:0≤x.abs:=Rat.num_nonneg.1 (by omega)
  have h3:0≤tenR (n-1-expR x.abs):=Rat.num_nonneg.1 (by rw [(tenR_parts _).1]; exact Int.natCast_nonneg _)
  exact Rat.num_nonneg.2 (Rat.mul_nonneg h2 h3)
 have HQ:=fquo_ans hsz7 hts (tenR_ne _) (by decide)
 rw [hq] at HQ
 have hL:∀ W,Below w.heap.size w W→Calls Tryz.prog 175 #[.string (if n<((wtext (evenR (x.abs*tenR (n-1-expR x.abs)))).size:Int) then (wtext (evenR (x.abs*tenR (n-1-expR x.abs)))).extract 0 n.toNat else wtext (evenR (x.abs*tenR (n-1-expR x.abs)))),.int .i64 (if n<((wtext (evenR (x.abs*tenR (n-1-expR x.abs)))).size:Int) then expR x.abs+1 else expR x.abs)] W fun r w'=>r = .returned (.string (plcR (rndR x.abs n).1 (rndR x.abs n).2 it))∧Below W.heap.size W w':=by
  intro W hW
  have h:=laid_calls (rndR x.abs n).1 it (rndR x.abs n).2 W hrs hit hr2 (HI W hW)
  have d1:(if n<((wtext (evenR (x.abs*tenR (n-1-expR x.abs)))).size:Int) then (wtext (evenR (x.abs*tenR (n-1-expR x.abs)))).extract 0 n.toNat else wtext (evenR (x.abs*tenR (n-1-expR x.abs))))=(rndR x.abs n).1:=by
   unfold rndR; dsimp only; split<;>rfl
  have d2:(if n<((wtext (evenR (x.abs*tenR (n-1-expR x.abs)))).size:Int) then expR x.abs+1 else expR x.abs)=(rndR x.abs n).2:=by
   unfold rndR; dsimp only; split<;>rfl
  rw [d1,d2]
  exact h
 have h:=told_walk (Fr x).1 (Fr x).2.1 (Fr x).2.2 (Fr x.abs).1 (Fr (tenR (expR x.abs-n+1))).1 (Fr (x.abs*tenR (n-1-expR x.abs))).1 (Fr x.abs).2.1 (Fr x.abs).2.2 (Fr (tenR (expR x.abs-n+1))).2.1 (Fr (tenR (expR x.abs-n+1))).2.2 (Fr (x.abs*tenR (n-1-expR x.abs))).2.1 (Fr (x.abs*tenR (n-1-expR x.abs))).2.2 (wtext (evenR (x.abs*tenR (n-1-expR x.abs)))) (plcR (rndR x.abs n).1 (rndR x.abs n).2 it) (expR x.abs) n w ⟨h0,h1⟩ (by omega) hps (fzero_ans hz) (fsize_ans x) (exponent_ans hpos hsz) (rten_ans _ (by omega) (by omega)) HQ (even_ans hqs hqn) hL
 have hsg:((if (Fr x).1=true then (⟨#[45]⟩:ByteArray) else ⟨#[]⟩))=(if x.num<0 then (⟨#[45]⟩:ByteArray) else ⟨#[]⟩):=by
  show (if decide (x.num<0)=true then _ else _)=_
  by_cases hn:x.num<0
  ·rw [if_pos (decide_eq_true hn),if_pos hn]
  ·rw [if_neg (by simpa using hn),if_neg hn]
 rw [hsg] at h
 exact h
theorem fzero_yes:Ans 87 #[FrV 0] (.bool true):=fun W=>by
 refine c1_FZero.calls _ _ _ true W ?_
 unfold c1_FZero.f
 congr 1
 exact beq_iff_eq.2 (b48.2 rfl)
theorem number_both (a b:ByteArray) (n:Int) (w:World) (HT:∀ (e:Int),-100000≤e→e≤100000→∃ it:ByteArray,it.size≤1000∧∀ W,Below w.heap.size w W→Calls Tryz.prog 170 #[.int .i64 e] W fun r w'=>r = .returned (.string it)∧Below W.heap.size W w') :
  ∃ (s:ByteArray) (e:Int),(∀ W,Below w.heap.size w W→Calls Tryz.prog 19 #[.agg #[.string a,.string b],.int .i64 n] W fun r w'=>r = .returned (.tuple #[.string s,.int .i64 e])∧Below W.heap.size W w')∧(∀ W,Below w.heap.size w W→Calls Tryz.prog 20 #[.agg #[.string a,.string b],.int .i64 n] W fun r w'=>r = .returned (.tuple #[.string s,.int .i64 e])∧Below W.heap.size W w'):=by
 by_cases hr:∃ x,RR a b x
 ·obtain ⟨x,hx⟩:=hr
  by_cases hn:n<1∨40<n
  ·exact ⟨_,_,fun W _=>number_arg a b n hn (zbd hx) W,fun W _=>rnum_arg a b _ _ _ n hn (zbf hx) W⟩
  ·have h0:1≤n:=by omega
   have h1:n≤40:=by omega
   by_cases hz:x=0
   ·subst hz
    exact ⟨_,_,fun W _=>number_zero a b n h0 h1 ((rr_zero hx).2 rfl) (zbd hx) W,fun W _=>rnum_ok a b _ _ _ _ n W h0 h1 (zbf hx) (fun W2 _=>told_zero _ _ _ n fzero_yes W2)⟩
   ·have hsz:Sz 600 x.abs:=by
     obtain ⟨e1,e2⟩:=zc4 x
     unfold Sz; rw [e1,e2,Int.natAbs_natCast]; exact rr_sz hx
    have hel:=expR_le hsz
    have hr2 : -100000≤(rndR x.abs n).2∧(rndR x.abs n).2≤100000:=by
     unfold rndR; dsimp only; split<;>(dsimp only; omega)
    obtain ⟨it,hit,HI⟩:=HT (rndR x.abs n).2 hr2.1 hr2.2
    exact ⟨_,_,fun W hW=>number_ok a b it x n W h0 h1 hx hz hit (fun W2 h2=>HI W2 (bthen hW h2)),fun W hW=>rnum_ok a b _ _ _ _ n W h0 h1 (zbf hx) (fun W2 h2=>told_ok it W2 h0 h1 hz (rr_sz hx) hx.bd hit (fun W3 h3=>HI W3 (bthen (bthen hW h2) h3)))⟩
 ·exact ⟨_,_,fun W _=>number_no a b n (rat_right_no hr) W,fun W _=>rnum_no a b _ _ _ n (zcW hr) W⟩
theorem show_no (a b u v d1:ByteArray) (s:Bool) (e1 n:Int) (w:World)
  (HN:∀ W,Below w.heap.size w W→Calls Tryz.prog 19 #[.agg #[.string a,.string b],.int .i64 n] W fun r w'=>r = .returned (.tuple #[.string d1,.int .i64 e1])∧Below W.heap.size W w') (HR:∀ W,Below w.heap.size w W→Calls Tryz.prog 20 #[.agg #[.string a,.string b],.int .i64 n] W fun r w'=>r = .returned (.tuple #[.string d1,.int .i64 e1])∧Below W.heap.size W w')
  (HX:Ans 21 #[.agg #[.string a,.string b],.int .i64 n] (.tuple #[.string ⟨#[]⟩,.int .i64 3])) (HF:Ans 22 #[.agg #[.string a,.string b]] (.tuple #[.agg #[.bool s,.string u,.string v],.bool false]))
  (HK:∀ W,Below w.heap.size w W→Calls Tryz.prog 23 #[] W fun r w'=>r = .returned (.bool true)∧Below W.heap.size W w') :
  Calls Tryz.prog 3 #[.agg #[.string a,.string b],.int .i64 n] w fun r w'=>r = .returned (.bool true)∧Below w.heap.size w w':=by
 have HN:=Lib.hid HN
 have HR:=Lib.hid HR
 have HX:=Lib.hid HX
 have HF:=Lib.hid HF
 have HK:=Lib.hid HK
 have q1:(d1.toList == d1.toList)=true:=beq_self_eq_true _
 have q2:(d1.toList != d1.toList)=false:=by simp
 have q3:(e1 != e1)=false:=by simp
 have q4:(e1 == e1)=true:=beq_self_eq_true _
 go_enter Tryz.func3,Tryz.ntmps3
 have fa:=RbAt.new w a b
 have hba:=zab (Below.refl w.heap.size w) (.cells #[.string a,.string b] 23)
 go_wp2_with fail
 generalize w.alloc (.cells #[.string a,.string b] 23)=W0 at *
 have HFA:=Lib.hid fa
 have HBA:=Lib.hid hba
 clear hba fa
 have c0:=HFA.out.c0
 have c1:=HFA.out.c1
 go_wp2_with fail
 refine (HN.out _ HBA.out).mono ?_
 rintro r w1 ⟨rfl,hb⟩
 replace HFA:=Lib.hid (HFA.out.below hb)
 replace HBA:=Lib.hid (bthen HBA.out hb)
 clear hb c0 c1
 have c0:=HFA.out.c0
 have c1:=HFA.out.c1
 go_wp2_with fail
 refine (HR.out _ HBA.out).mono ?_
 rintro r w2 ⟨rfl,hb⟩
 replace HFA:=Lib.hid (HFA.out.below hb)
 replace HBA:=Lib.hid (bthen HBA.out hb)
 clear hb c0 c1
 have c0:=HFA.out.c0
 have c1:=HFA.out.c1
 go_wp2_with fail
 refine (HX.out _).mono ?_
 rintro r w3 ⟨rfl,hb⟩
 replace HFA:=Lib.hid (HFA.out.below hb)
 replace HBA:=Lib.hid (bthen HBA.out hb)
 clear hb c0 c1
 have c0:=HFA.out.c0
 have c1:=HFA.out.c1
 go_wp2_with fail
 refine (HF.out _).mono ?_
 rintro r w4 ⟨rfl,hb⟩
 replace HFA:=Lib.hid (HFA.out.below hb)
 replace HBA:=Lib.hid (bthen HBA.out hb)
 clear hb c0 c1
 have hbx:=zab HBA.out (.cells #[.bool s,.string u,.string v] 28)
 replace HFA:=Lib.hid (HFA.out.alloc (.cells #[.bool s,.string u,.string v] 28))
 replace HBA:=Lib.hid hbx
 clear hbx
 go_wp2_with fail
 refine (HK.out _ HBA.out).mono ?_
 rintro r w6 ⟨rfl,hb⟩
 replace HFA:=Lib.hid (HFA.out.below hb)
 replace HBA:=Lib.hid (bthen HBA.out hb)
 clear hb
 go_wp2
 go_ret
 exact ⟨rfl,HBA.out⟩
theorem show_out (a b u v d1:ByteArray) (s:Bool) (e1 n:Int) (w:World) (hn:n<0∨40<n)
  (HN:∀ W,Below w.heap.size w W→Calls Tryz.prog 19 #[.agg #[.string a,.string b],.int .i64 n] W fun r w'=>r = .returned (.tuple #[.string d1,.int .i64 e1])∧Below W.heap.size W w') (HR:∀ W,Below w.heap.size w W→Calls Tryz.prog 20 #[.agg #[.string a,.string b],.int .i64 n] W fun r w'=>r = .returned (.tuple #[.string d1,.int .i64 e1])∧Below W.heap.size W w')
  (HX:Ans 21 #[.agg #[.string a,.string b],.int .i64 n] (.tuple #[.string ⟨#[]⟩,.int .i64 1])) (HF:Ans 22 #[.agg #[.string a,.string b]] (.tuple #[.agg #[.bool s,.string u,.string v],.bool true]))
  (HK:∀ W,Below w.heap.size w W→Calls Tryz.prog 23 #[] W fun r w'=>r = .returned (.bool true)∧Below W.heap.size W w') :
  Calls Tryz.prog 3 #[.agg #[.string a,.string b],.int .i64 n] w fun r w'=>r = .returned (.bool true)∧Below w.heap.size w w':=by
 have HN:=Lib.hid HN
 have HR:=Lib.hid HR
 have HX:=Lib.hid HX
 have HF:=Lib.hid HF
 have HK:=Lib.hid HK
 have q1:(d1.toList == d1.toList)=true:=beq_self_eq_true _
 have q2:(d1.toList != d1.toList)=false:=by simp
 have q3:(e1 != e1)=false:=by simp
 have q4:(e1 == e1)=true:=beq_self_eq_true _
 have HO:=Lib.hid hn
 clear hn
 go_enter Tryz.func3,Tryz.ntmps3
 have fa:=RbAt.new w a b
 have hba:=zab (Below.refl w.heap.size w) (.cells #[.string a,.string b] 23)
 go_wp2_with fail
 generalize w.alloc (.cells #[.string a,.string b] 23)=W0 at *
 have HFA:=Lib.hid fa
 have HBA:=Lib.hid hba
 clear hba fa
 have c0:=HFA.out.c0
 have c1:=HFA.out.c1
 go_wp2_with fail
 refine (HN.out _ HBA.out).mono ?_
 rintro r w1 ⟨rfl,hb⟩
 replace HFA:=Lib.hid (HFA.out.below hb)
 replace HBA:=Lib.hid (bthen HBA.out hb)
 clear hb c0 c1
 have c0:=HFA.out.c0
 have c1:=HFA.out.c1
 go_wp2_with fail
 refine (HR.out _ HBA.out).mono ?_
 rintro r w2 ⟨rfl,hb⟩
 replace HFA:=Lib.hid (HFA.out.below hb)
 replace HBA:=Lib.hid (bthen HBA.out hb)
 clear hb c0 c1
 have c0:=HFA.out.c0
 have c1:=HFA.out.c1
 go_wp2_with fail
 refine (HX.out _).mono ?_
 rintro r w3 ⟨rfl,hb⟩
 replace HFA:=Lib.hid (HFA.out.below hb)
 replace HBA:=Lib.hid (bthen HBA.out hb)
 clear hb c0 c1
 have c0:=HFA.out.c0
 have c1:=HFA.out.c1
 go_wp2_with fail
 refine (HF.out _).mono ?_
 rintro r w4 ⟨rfl,hb⟩
 replace HFA:=Lib.hid (HFA.out.below hb)
 replace HBA:=Lib.hid (bthen HBA.out hb)
 clear hb c0 c1
 have hbx:=zab HBA.out (.cells #[.bool s,.string u,.string v] 28)
 replace HFA:=Lib.hid (HFA.out.alloc (.cells #[.bool s,.string u,.string v] 28))
 replace HBA:=Lib.hid hbx
 clear hbx
 by_cases k1:n<0
 ·go_wp2_with fail
  refine (HK.out _ HBA.out).mono ?_
  rintro r w6 ⟨rfl,hb⟩
  replace HFA:=Lib.hid (HFA.out.below hb)
  replace HBA:=Lib.hid (bthen HBA.out hb)
  clear hb
  go_wp2
  go_ret
  exact ⟨rfl,HBA.out⟩
 ·have k2:n>40:=by have:=HO.out; omega
  clear HO
  go_wp2_with fail
  refine (HK.out _ HBA.out).mono ?_
  rintro r w6 ⟨rfl,hb⟩
  replace HFA:=Lib.hid (HFA.out.below hb)
  replace HBA:=Lib.hid (bthen HBA.out hb)
  clear hb
  go_wp2
  go_ret
  exact ⟨rfl,HBA.out⟩
theorem show_in (a b u v d1 d2:ByteArray) (s:Bool) (e1 n e2:Int) (w:World) (h0:0≤n) (h1:n≤40)
  (HN:∀ W,Below w.heap.size w W→Calls Tryz.prog 19 #[.agg #[.string a,.string b],.int .i64 n] W fun r w'=>r = .returned (.tuple #[.string d1,.int .i64 e1])∧Below W.heap.size W w') (HR:∀ W,Below w.heap.size w W→Calls Tryz.prog 20 #[.agg #[.string a,.string b],.int .i64 n] W fun r w'=>r = .returned (.tuple #[.string d1,.int .i64 e1])∧Below W.heap.size W w')
  (HX:Ans 21 #[.agg #[.string a,.string b],.int .i64 n] (.tuple #[.string d2,.int .i64 e2])) (HF:Ans 22 #[.agg #[.string a,.string b]] (.tuple #[.agg #[.bool s,.string u,.string v],.bool true]))
  (HD:Ans 24 #[.agg #[.string a,.string b],.int .i64 n] (.tuple #[.string d2,.int .i64 e2])) (HK:∀ W,Below w.heap.size w W→Calls Tryz.prog 23 #[] W fun r w'=>r = .returned (.bool true)∧Below W.heap.size W w') :
  Calls Tryz.prog 3 #[.agg #[.string a,.string b],.int .i64 n] w fun r w'=>r = .returned (.bool true)∧Below w.heap.size w w':=by
 have HN:=Lib.hid HN
 have HR:=Lib.hid HR
 have HX:=Lib.hid HX
 have HF:=Lib.hid HF
 have HK:=Lib.hid HK
 have q1:(d1.toList == d1.toList)=true:=beq_self_eq_true _
 have q2:(d1.toList != d1.toList)=false:=by simp
 have q3:(e1 != e1)=false:=by simp
 have q4:(e1 == e1)=true:=beq_self_eq_true _
 have HD:=Lib.hid HD
 have q5:(d2.toList == d2.toList)=true:=beq_self_eq_true _
 have q6:(e2 == e2)=true:=beq_self_eq_true _
 have k1:¬ n<0:=by omega
 have k2:¬ n>40:=by omega
 clear h0 h1
 go_enter Tryz.func3,Tryz.ntmps3
 have fa:=RbAt.new w a b
 have hba:=zab (Below.refl w.heap.size w) (.cells #[.string a,.string b] 23)
 go_wp2_with fail
 generalize w.alloc (.cells #[.string a,.string b] 23)=W0 at *
 have HFA:=Lib.hid fa
 have HBA:=Lib.hid hba
 clear hba fa
 have c0:=HFA.out.c0
 have c1:=HFA.out.c1
 go_wp2_with fail
 refine (HN.out _ HBA.out).mono ?_
 rintro r w1 ⟨rfl,hb⟩
 replace HFA:=Lib.hid (HFA.out.below hb)
 replace HBA:=Lib.hid (bthen HBA.out hb)
 clear hb c0 c1
 have c0:=HFA.out.c0
 have c1:=HFA.out.c1
 go_wp2_with fail
 refine (HR.out _ HBA.out).mono ?_
 rintro r w2 ⟨rfl,hb⟩
 replace HFA:=Lib.hid (HFA.out.below hb)
 replace HBA:=Lib.hid (bthen HBA.out hb)
 clear hb c0 c1
 have c0:=HFA.out.c0
 have c1:=HFA.out.c1
 go_wp2_with fail
 refine (HX.out _).mono ?_
 rintro r w3 ⟨rfl,hb⟩
 replace HFA:=Lib.hid (HFA.out.below hb)
 replace HBA:=Lib.hid (bthen HBA.out hb)
 clear hb c0 c1
 have c0:=HFA.out.c0
 have c1:=HFA.out.c1
 go_wp2_with fail
 refine (HF.out _).mono ?_
 rintro r w4 ⟨rfl,hb⟩
 replace HFA:=Lib.hid (HFA.out.below hb)
 replace HBA:=Lib.hid (bthen HBA.out hb)
 clear hb c0 c1
 have hbx:=zab HBA.out (.cells #[.bool s,.string u,.string v] 28)
 replace HFA:=Lib.hid (HFA.out.alloc (.cells #[.bool s,.string u,.string v] 28))
 replace HBA:=Lib.hid hbx
 clear hbx
 have c0:=HFA.out.c0
 have c1:=HFA.out.c1
 go_wp2_with fail
 refine (HD.out _).mono ?_
 rintro r w5 ⟨rfl,hb⟩
 replace HFA:=Lib.hid (HFA.out.below hb)
 replace HBA:=Lib.hid (bthen HBA.out hb)
 clear hb c0 c1
 go_wp2_with fail
 refine (HK.out _ HBA.out).mono ?_
 rintro r w6 ⟨rfl,hb⟩
 replace HFA:=Lib.hid (HFA.out.below hb)
 replace HBA:=Lib.hid (bthen HBA.out hb)
 clear hb
 go_wp2
 go_ret
 exact ⟨rfl,HBA.out⟩
def Itoas (w:World):Prop:=∀ (e:Int),-100000≤e→e≤100000→∃ it:ByteArray,it.size≤1000∧∀ W,Below w.heap.size w W→Calls Tryz.prog 170 #[.int .i64 e] W fun r w'=>r = .returned (.string it)∧Below W.heap.size W w'
theorem Itoas.below {w w':World} (h:Itoas w) (hb:Below w.heap.size w w'):Itoas w':=fun e h0 h1=>by
 obtain ⟨it,h2,h3⟩:=h e h0 h1
 exact ⟨it,h2,fun W hW=>h3 W (bthen hb hW)⟩
theorem third_rr:RR ⟨#[49]⟩ ⟨#[51]⟩ (Rat.divInt 1 3):=by
 have h1:(Rat.divInt 1 3).num=1:=by decide
 have h2:(Rat.divInt 1 3).den=3:=by decide
 have k1:(1:Nat)<10^600:=Nat.lt_of_lt_of_le (show 1<10^1 by decide) (Nat.pow_le_pow_right (by decide) (by decide))
 have k3:(3:Nat)<10^600:=Nat.lt_of_lt_of_le (show 3<10^1 by decide) (Nat.pow_le_pow_right (by decide) (by decide))
 refine ⟨?_,?_,?_,?_⟩
 ·rw [h1,zaN (by decide)]; decide +kernel
 ·rw [h2]; decide +kernel
 ·rw [h1]; exact k1
 ·rw [h2]; exact k3
theorem third_abs:(Rat.divInt 1 3).abs=Rat.divInt 1 3:=by decide +kernel
theorem third_rnd:rndR (Rat.divInt 1 3) 3=(⟨#[51,51,51]⟩,-1):=by decide +kernel
theorem third_plc (it:ByteArray):plcR ⟨#[51,51,51]⟩ (-1) it=⟨#[48,46,51,51,51]⟩:=by
 unfold plcR
 rw [if_neg (by decide),if_pos (by decide)]
 decide +kernel
theorem known_third (w:World) (H:Itoas w):Calls Tryz.prog 19 #[.agg #[.string ⟨#[49]⟩,.string ⟨#[51]⟩],.int .i64 3] w fun r w'=>r = .returned (.tuple #[.string ⟨#[48,46,51,51,51]⟩,.int .i64 0])∧Below w.heap.size w w':=by
 obtain ⟨it,hit,HI⟩:=H (-1) (by decide) (by decide)
 have hne:Rat.divInt 1 3≠0:=by decide
 have h:=number_ok ⟨#[49]⟩ ⟨#[51]⟩ it (Rat.divInt 1 3) 3 w (by decide) (by decide) third_rr hne hit (by rw [third_abs,third_rnd]; exact HI)
 rw [third_abs,third_rnd,third_plc,if_neg (by decide)] at h
 have e:(⟨#[]⟩:ByteArray)++(⟨#[48,46,51,51,51]⟩:ByteArray)=⟨#[48,46,51,51,51]⟩:=by decide
 rw [e] at h
 exact h
theorem known25 (w:World) (H:Itoas w):Calls Tryz.prog 23 #[] w fun r w'=>r = .returned (.bool true)∧Below w.heap.size w w':=by
 have H3:=Lib.hid (fun W (h:Below w.heap.size w W)=>known_third W (H.below h))
 clear H
 go_enter Tryz.func23,Tryz.ntmps23
 have hba:=zab (Below.refl w.heap.size w) (.cells #[.string ⟨#[49]⟩,.string ⟨#[51]⟩] 23)
 have fa:=RbAt.new w ⟨#[49]⟩ ⟨#[51]⟩
 have c0:=fa.c0
 have c1:=fa.c1
 go_wp2_with fail
 refine (H3.out _ (by first|exact hba|exact Below.refl _ _)).mono ?_
 rintro r w1 ⟨rfl,hb⟩
 have HB:=Lib.hid (show Below w.heap.size w w1 from by first|exact bthen hba hb|exact hb)
 clear hb hba fa c0 c1
 go_wp2
 go_ret
 exact ⟨rfl,HB.out⟩
theorem ShowNumbers_any (a b:ByteArray) (n:Int) (W:World) (h0 : -9223372036854775808≤n) (h1:n≤9223372036854775807) (H:Itoas W) :
  Calls Tryz.prog 3 #[.agg #[.string a,.string b],.int .i64 n] W fun e W'=>e = .returned (.bool true)∧Below W.heap.size W W':=by
 obtain ⟨s,e,hN,hR⟩:=number_both a b n W H
 have HK:∀ W',Below W.heap.size W W'→Calls Tryz.prog 23 #[] W' fun r w'=>r = .returned (.bool true)∧Below W'.heap.size W' w':=fun W' h=>known25 W' (H.below h)
 by_cases hr:∃ x,RR a b x
 ·obtain ⟨x,hx⟩:=hr
  by_cases hn:n<0∨40<n
  ·exact show_out a b _ _ s (Fr x).1 e n W hn hN hR (fixed_arg a b n hn (zbd hx)) (zbf hx) HK
  ·have k0:0≤n:=by omega
   have k1:n≤40:=by omega
   obtain ⟨⟨d,e2⟩,hd1,hd2⟩:=digits_ev a b n h0 (by omega)
   have HD1:Ans 31 #[.agg #[.string a,.string b],.int .i64 n] (.tuple #[.string d,.int .i64 e2]):=fun W'=>rat_Digits.calls a b n d e2 W' hd1
   have HD2:Ans 24 #[.agg #[.string a,.string b],.int .i64 n] (.tuple #[.string d,.int .i64 e2]):=fun W'=>by
    obtain ⟨k,hk⟩:=hd2.rounds
    exact c2_Digits.calls k a b n d e2 W' hk
   exact show_in a b _ _ s d (Fr x).1 e n e2 W k0 k1 hN hR (fixed_ok a b d n e2 k0 k1 (zbd hx) HD1) (zbf hx) HD2 HK
 ·exact show_no a b _ _ s false e n W hN hR (fixed_no a b n (rat_right_no hr)) (zcW hr) HK
end Go.Proofs.ZQ
end
