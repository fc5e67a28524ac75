/- Texts under the proof, joined by a program (prune.py): QFracOf, QShow3. -/
import Derived.Test.YtglaeambknhjlaaGreatDoorCShowNumbers17
import Derived.Test.YtglaeambknhjlaaGreatDoorCShowNumbers20
import Derived.Deep.CutRange
import Derived.Test.YtglaeambknhjlaaGreatDoorCShowNumbers13
import Derived.Test.YtglaeambknhjlaaGreatDoorCShowNumbers05
set_option linter.unusedVariables false
set_option linter.unusedSimpArgs false
set_option exponentiation.threshold 20001
set_option maxHeartbeats 8000000
set_option maxRecDepth 100000
section
namespace Go.Proofs.ZQ
open Go.RowKit Go.Proofs.ZW.Wa Go.Proofs.ZP Go.Proofs.ZW.Wb Go.Proofs.ZW.Wc
theorem fc_start (w:World) (a b t:ByteArray) (s:Bool):FcAt (((w.alloc (.cells #[.string a,.string b] 23)).alloc (.cells #[.bool false,.string ⟨#[]⟩,.string ⟨#[]⟩] 28)).alloc (.cells #[.bool s,.string t,.string b] 28)) (w.heap.size+1) false ⟨#[]⟩ ⟨#[]⟩∧FcAt (((w.alloc (.cells #[.string a,.string b] 23)).alloc (.cells #[.bool false,.string ⟨#[]⟩,.string ⟨#[]⟩] 28)).alloc (.cells #[.bool s,.string t,.string b] 28)) (w.heap.size+1+1) s t b∧Below w.heap.size w (((w.alloc (.cells #[.string a,.string b] 23)).alloc (.cells #[.bool false,.string ⟨#[]⟩,.string ⟨#[]⟩] 28)).alloc (.cells #[.bool s,.string t,.string b] 28)):=by
  refine ⟨?_,?_,zab (zab (zab (Below.refl _ _) _) _) _⟩
  · have h:=(FcAt.new (w.alloc (.cells #[.string a,.string b] 23)) false ⟨#[]⟩ ⟨#[]⟩).alloc (.cells #[.bool s,.string t,.string b] 28)
    rw [World.size_alloc] at h
    exact h
  · have h:=FcAt.new ((w.alloc (.cells #[.string a,.string b] 23)).alloc (.cells #[.bool false,.string ⟨#[]⟩,.string ⟨#[]⟩] 28)) s t b
    rw [World.size_alloc,World.size_alloc] at h
    exact h
theorem spl_head {a:ByteArray} (hp:0<a.size):(((a[0]'hp).toNat:Int) == 45)=(spl a).1:=by
  have e1:a[0]'hp=a.data.toList[0]'(by rw [zav]; exact hp):=rfl
  have e2:a.data.toList.head? = some (a[0]'hp):=by rw [e1,List.head?_eq_getElem?,List.getElem?_eq_getElem]
  unfold spl
  rw [e2]
  by_cases h:a[0]'hp=45
  · rw [if_pos (by rw [h]),h]; rfl
  · rw [if_neg (fun e=>h (Option.some.inj e)),beq_eq_false_iff_ne]
    intro e
    exact h (UInt8.toNat_inj.1 (by show _=45; omega))
def FOf (s r1 r2 z m:Bool) (t b g:ByteArray) (res:Value):Prop:=res=if r1=true∧r2=true∧z=false∧(s=true→m=false)∧g.toList=([49]:List UInt8) then .tuple #[.agg #[.bool s,.string t,.string b],.bool true] else .tuple #[.agg #[.bool false,.string (T 0),.string (T 1)],.bool false]
def FCom (r1 r2:Bool) (t b g:ByteArray):Prop:=r1=true→r2=true→Ans 95 #[.string t,.string b] (.string g)
theorem FOf.r1 {s r2 z m:Bool} {t b g:ByteArray} {res:Value} (h:FOf s false r2 z m t b g res):res = .tuple #[.agg #[.bool false,.string (T 0),.string (T 1)],.bool false]:=h.trans (if_neg (fun h=>absurd h.1 (by decide)))
theorem FOf.r2 {s r1 z m:Bool} {t b g:ByteArray} {res:Value} (h:FOf s r1 false z m t b g res):res = .tuple #[.agg #[.bool false,.string (T 0),.string (T 1)],.bool false]:=h.trans (if_neg (fun h=>absurd h.2.1 (by decide)))
theorem FOf.z {s r1 r2 m:Bool} {t b g:ByteArray} {res:Value} (h:FOf s r1 r2 true m t b g res):res = .tuple #[.agg #[.bool false,.string (T 0),.string (T 1)],.bool false]:=h.trans (if_neg (fun h=>absurd h.2.2.1 (by decide)))
theorem FOf.m {r1 r2 z:Bool} {t b g:ByteArray} {res:Value} (h:FOf true r1 r2 z true t b g res):res = .tuple #[.agg #[.bool false,.string (T 0),.string (T 1)],.bool false]:=h.trans (if_neg (fun h=>absurd (h.2.2.2.1 rfl) (by decide)))
theorem FOf.g {s r1 r2 z m:Bool} {t b g:ByteArray} {res:Value} (hg:g.toList≠([49]:List UInt8)) (h:FOf s r1 r2 z m t b g res):res = .tuple #[.agg #[.bool false,.string (T 0),.string (T 1)],.bool false]:=h.trans (if_neg (fun h=>hg h.2.2.2.2))
theorem FOf.yes {s m:Bool} {t b g:ByteArray} {res:Value} (hg:g.toList=([49]:List UInt8)) (hm:s=true→m=false) (h:FOf s true true false m t b g res):res = .tuple #[.agg #[.bool s,.string t,.string b],.bool true]:=h.trans (if_pos ⟨rfl,rfl,rfl,hm,hg⟩)
theorem fracof_walk (a b t : ByteArray) (s r1 r2 z m : Bool) (g : ByteArray) (res : Value) (hs : spl a = (s, t)) (hz : (b.toList == ([48] : List UInt8)) = z) (hm : (t.toList == ([48] : List UInt8)) = m) (H1 : Ans 94 #[.string t] (.bool r1)) (H2 : Ans 94 #[.string b] (.bool r2)) (HC : FCom r1 r2 t b g) (HW : Ans 86 #[.int .i64 0] (.agg #[.bool false, .string (T 0), .string (T 1)]))
    (hv:FOf s r1 r2 z m t b g res) :
    Ans 22 #[.agg #[.string a,.string b]] res:=by
  intro w
  have H1:=Lib.hid H1
  have H2:=Lib.hid H2
  have HC:=Lib.hid HC
  have HW:=Lib.hid HW
  have HZ:=Lib.hid hz
  have HM:=Lib.hid hm
  have HV:=Lib.hid hv
  have hcases:(s=false∧t=a∧¬ 0<a.size)∨(s=false∧t=a∧∃ hp:0<a.size,(((a[0]'hp).toNat:Int) == 45)=false)∨(s=true∧t=a.extract 1 a.size∧∃ hp:0<a.size,(((a[0]'hp).toNat:Int) == 45)=true):=by
    cases s
    · have k:t=a:=by
        have h1:(spl a).1=false:=by rw [hs]
        have k:=spl_pos h1
        rw [hs] at k
        exact k
      by_cases hp:0<a.size
      · exact Or.inr (Or.inl ⟨rfl,k,hp,by rw [spl_head hp,hs]⟩)
      · exact Or.inl ⟨rfl,k,hp⟩
    · have h1:(spl a).1=true:=by rw [hs]
      obtain ⟨k1,k2⟩:=spl_neg h1
      have hp:0<a.size:=by
        rw [k1,ByteArray.size_append]
        show 0<1+_
        omega
      rw [hs] at k2
      exact Or.inr (Or.inr ⟨rfl,k2,hp,by rw [spl_head hp,hs]⟩)
  clear hs hz hm hv
  obtain ⟨fr,fx,hba⟩:=fc_start w a b t s
  have HR0:=Lib.hid fr
  have HX0:=Lib.hid fx
  have HB0:=Lib.hid hba
  clear fr fx hba
  rcases hcases with ⟨rfl,rfl,hp⟩|⟨rfl,rfl,hp,hb⟩|⟨rfl,rfl,hp,hb⟩
  all_goals
    try (have hp1:(1:Int)≤(a.size:Int):=by omega)
    go_enter Tryz.func22,Tryz.ntmps22
    go_wp2_with fail
    generalize World.alloc _ _=W0 at *
    have HGE:=Lib.hid (show w.heap.size≤w.heap.size+1 by omega)
    generalize hX:w.heap.size+1+1=X at *
    generalize hR:w.heap.size+1=RB at *
    have HX:=HX0
    have HR:=HR0
    have HB:=HB0
    clear HX0 HR0 HB0 hX hR
    try clear hb
    try clear hp1
    try clear hp
    have c0:=HX.out.c0
    have c1:=HX.out.c1
    have c2:=HX.out.c2
    refine (H1.out _).mono ?_
    rintro e w1 ⟨rfl,hb⟩
    replace HX:=Lib.hid (HX.out.below hb)
    replace HR:=Lib.hid (HR.out.below hb)
    replace HB:=Lib.hid (bthen HB.out hb)
    clear hb c0 c1 c2
    have c0:=HX.out.c0
    have c1:=HX.out.c1
    have c2:=HX.out.c2
    cases r1
    · have HE:=Lib.hid (FOf.r1 HV.out)
      go_wp2_with fail
      refine (HW.out _).mono ?_
      rintro e wz ⟨rfl,hbz⟩
      have HR9:=Lib.hid (HR.out.below hbz)
      have HB9:=Lib.hid (bthen HB.out hbz)
      clear hbz
      have g0:=HR9.out.c0
      have g1:=HR9.out.c1
      have g2:=HR9.out.c2
      have k0:=zaj HR9.out 0
      have k1:=zaj HR9.out 1
      have k2:=zaj HR9.out 2
      obtain ⟨hF,hBF⟩:=zcX HR9.out HB9.out HGE.out false (T 0) (T 1)
      have HF:=Lib.hid hF
      have HBF:=Lib.hid hBF
      clear hF hBF
      go_wp2
      refine bodyPost_ret (zbl rfl _ _ RB 28 #[.bool false,.string (T 0),.string (T 1)] (0,0) _ rfl HF.out Tryz.underlying28 rfl (by kernel_rfl)) rfl ?_
      exact ⟨congrArg Ending.returned HE.out.symm,HBF.out⟩
    go_wp2_with fail
    refine (H2.out _).mono ?_
    rintro e w2 ⟨rfl,hb⟩
    replace HX:=Lib.hid (HX.out.below hb)
    replace HR:=Lib.hid (HR.out.below hb)
    replace HB:=Lib.hid (bthen HB.out hb)
    clear hb c0 c1 c2
    have c0:=HX.out.c0
    have c1:=HX.out.c1
    have c2:=HX.out.c2
    cases r2
    · have HE:=Lib.hid (FOf.r2 HV.out)
      go_wp2_with fail
      refine (HW.out _).mono ?_
      rintro e wz ⟨rfl,hbz⟩
      have HR9:=Lib.hid (HR.out.below hbz)
      have HB9:=Lib.hid (bthen HB.out hbz)
      clear hbz
      have g0:=HR9.out.c0
      have g1:=HR9.out.c1
      have g2:=HR9.out.c2
      have k0:=zaj HR9.out 0
      have k1:=zaj HR9.out 1
      have k2:=zaj HR9.out 2
      obtain ⟨hF,hBF⟩:=zcX HR9.out HB9.out HGE.out false (T 0) (T 1)
      have HF:=Lib.hid hF
      have HBF:=Lib.hid hBF
      clear hF hBF
      go_wp2
      refine bodyPost_ret (zbl rfl _ _ RB 28 #[.bool false,.string (T 0),.string (T 1)] (0,0) _ rfl HF.out Tryz.underlying28 rfl (by kernel_rfl)) rfl ?_
      exact ⟨congrArg Ending.returned HE.out.symm,HBF.out⟩
    have hz:=HZ.out
    cases z
    rotate_left
    · have HE:=Lib.hid (FOf.z HV.out)
      go_wp2_with fail
      refine (HW.out _).mono ?_
      rintro e wz ⟨rfl,hbz⟩
      have HR9:=Lib.hid (HR.out.below hbz)
      have HB9:=Lib.hid (bthen HB.out hbz)
      clear hbz
      have g0:=HR9.out.c0
      have g1:=HR9.out.c1
      have g2:=HR9.out.c2
      have k0:=zaj HR9.out 0
      have k1:=zaj HR9.out 1
      have k2:=zaj HR9.out 2
      obtain ⟨hF,hBF⟩:=zcX HR9.out HB9.out HGE.out false (T 0) (T 1)
      have HF:=Lib.hid hF
      have HBF:=Lib.hid hBF
      clear hF hBF
      go_wp2
      refine bodyPost_ret (zbl rfl _ _ RB 28 #[.bool false,.string (T 0),.string (T 1)] (0,0) _ rfl HF.out Tryz.underlying28 rfl (by kernel_rfl)) rfl ?_
      exact ⟨congrArg Ending.returned HE.out.symm,HBF.out⟩
    have hm:=HM.out
    have HC:=Lib.hid ((show FCom true true _ _ _ from HC.out) rfl rfl)
    by_cases hg:g.toList=([49]:List UInt8)
    · have hgb : (g.toList != ([49] : List UInt8)) = false := by simpa using hg
      cases m
      all_goals
        go_wp2_with fail
        first
        | (have HE := Lib.hid (FOf.m HV.out)
           refine (HW.out _).mono ?_
           rintro e wz ⟨rfl,hbz⟩
           have HR9:=Lib.hid (HR.out.below hbz)
           have HB9:=Lib.hid (bthen HB.out hbz)
           clear hbz
           have g0:=HR9.out.c0
           have g1:=HR9.out.c1
           have g2:=HR9.out.c2
           have k0:=zaj HR9.out 0
           have k1:=zaj HR9.out 1
           have k2:=zaj HR9.out 2
           obtain ⟨hF,hBF⟩:=zcX HR9.out HB9.out HGE.out false (T 0) (T 1)
           have HF:=Lib.hid hF
           have HBF:=Lib.hid hBF
           clear hF hBF
           go_wp2
           refine bodyPost_ret (zbl rfl _ _ RB 28 #[.bool false,.string (T 0),.string (T 1)] (0,0) _ rfl HF.out Tryz.underlying28 rfl (by kernel_rfl)) rfl ?_
           exact ⟨congrArg Ending.returned HE.out.symm,HBF.out⟩
          )
        | (have HE := Lib.hid (FOf.yes hg (by first | exact fun _ => rfl | exact fun e => absurd e (by decide)) HV.out)
           refine (HC.out _).mono ?_
           rintro e w3 ⟨rfl,hb⟩
           replace HX:=Lib.hid (HX.out.below hb)
           replace HR:=Lib.hid (HR.out.below hb)
           replace HB:=Lib.hid (bthen HB.out hb)
           clear hb c0 c1 c2
           have c0:=HX.out.c0
           have c1:=HX.out.c1
           have c2:=HX.out.c2
           have g0:=HR.out.c0
           have g1:=HR.out.c1
           have g2:=HR.out.c2
           have k0:=zaj HR.out 0
           have k1:=zaj HR.out 1
           have k2:=zaj HR.out 2
           first
           | (obtain ⟨hF, hBF⟩ := zcX HR.out HB.out HGE.out false t b
              have HF:=Lib.hid hF
              have HBF:=Lib.hid hBF
              clear hF hBF
              go_wp2
              refine bodyPost_ret (zbl rfl _ _ RB 28 #[.bool false,.string t,.string b] (0,0) _ rfl HF.out Tryz.underlying28 rfl (by kernel_rfl)) rfl ?_
              exact ⟨congrArg Ending.returned HE.out.symm,HBF.out⟩)
           | (obtain ⟨hF, hBF⟩ := zcX HR.out HB.out HGE.out true (a.extract 1 a.size) b
              have HF:=Lib.hid hF
              have HBF:=Lib.hid hBF
              clear hF hBF
              go_wp2
              refine bodyPost_ret (zbl rfl _ _ RB 28 #[.bool true,.string (a.extract 1 a.size),.string b] (0,0) _ rfl HF.out Tryz.underlying28 rfl (by kernel_rfl)) rfl ?_
              exact ⟨congrArg Ending.returned HE.out.symm,HBF.out⟩))
    · have hgb : (g.toList != ([49] : List UInt8)) = true := by simpa using hg
      have hgb2:(g.toList == ([49]:List UInt8))=false:=by simpa using hg
      have HE:=Lib.hid (FOf.g hg HV.out)
      cases m
      all_goals
        go_wp2_with fail
        first
        | (skip
           refine (HW.out _).mono ?_
           rintro e wz ⟨rfl,hbz⟩
           have HR9:=Lib.hid (HR.out.below hbz)
           have HB9:=Lib.hid (bthen HB.out hbz)
           clear hbz
           have g0:=HR9.out.c0
           have g1:=HR9.out.c1
           have g2:=HR9.out.c2
           have k0:=zaj HR9.out 0
           have k1:=zaj HR9.out 1
           have k2:=zaj HR9.out 2
           obtain ⟨hF,hBF⟩:=zcX HR9.out HB9.out HGE.out false (T 0) (T 1)
           have HF:=Lib.hid hF
           have HBF:=Lib.hid hBF
           clear hF hBF
           go_wp2
           refine bodyPost_ret (zbl rfl _ _ RB 28 #[.bool false,.string (T 0),.string (T 1)] (0,0) _ rfl HF.out Tryz.underlying28 rfl (by kernel_rfl)) rfl ?_
           exact ⟨congrArg Ending.returned HE.out.symm,HBF.out⟩
          )
        | (refine (HC.out _).mono ?_
           rintro e w3 ⟨rfl,hb⟩
           replace HX:=Lib.hid (HX.out.below hb)
           replace HR:=Lib.hid (HR.out.below hb)
           replace HB:=Lib.hid (bthen HB.out hb)
           clear hb c0 c1 c2
           have c0:=HX.out.c0
           have c1:=HX.out.c1
           have c2:=HX.out.c2
           go_wp2_with fail
           refine (HW.out _).mono ?_
           rintro e wz ⟨rfl,hbz⟩
           have HR9:=Lib.hid (HR.out.below hbz)
           have HB9:=Lib.hid (bthen HB.out hbz)
           clear hbz
           have g0:=HR9.out.c0
           have g1:=HR9.out.c1
           have g2:=HR9.out.c2
           have k0:=zaj HR9.out 0
           have k1:=zaj HR9.out 1
           have k2:=zaj HR9.out 2
           obtain ⟨hF,hBF⟩:=zcX HR9.out HB9.out HGE.out false (T 0) (T 1)
           have HF:=Lib.hid hF
           have HBF:=Lib.hid hBF
           clear hF hBF
           go_wp2
           refine bodyPost_ret (zbl rfl _ _ RB 28 #[.bool false,.string (T 0),.string (T 1)] (0,0) _ rfl HF.out Tryz.underlying28 rfl (by kernel_rfl)) rfl ?_
           exact ⟨congrArg Ending.returned HE.out.symm,HBF.out⟩
          )
theorem whole0:c1_Whole.f 0=some (false,T 0,T 1):=by
  unfold c1_Whole.f c1_Of.f
  rw [if_neg (by decide)]
  have e:IntKind.u64.wrap 0=0:=rfl
  rw [e,if_pos (by decide),Option.bind_some,T_1]; rfl
theorem T_is1 (n:Nat):(T n).toList=([49]:List UInt8)↔n=1:=by
  have hb:=b49 (s:=T n)
  constructor
  · intro e
    have h9:decide (T n=T 1)=true:=by rw [←hb,e]; rfl
    exact T_inj (of_decide_eq_true h9)
  · intro e
    have h9:=hb.trans (decide_eq_true (by rw [e]))
    simpa using h9
theorem z48 (s:ByteArray):((s.toList == ([48]:List UInt8))=false)↔s≠T 0:=by
  rw [beq_eq_false_iff_ne,Ne,b48]
theorem fracof_any (a b:ByteArray):Ans 22 #[.agg #[.string a,.string b]] (if coreB (spl a).1 (spl a).2 b=true then .tuple #[.agg #[.bool (spl a).1,.string (spl a).2,.string b],.bool true] else .tuple #[.agg #[.bool false,.string (T 0),.string (T 1)],.bool false]):=by
  refine fracof_walk a b (spl a).2 (spl a).1 (rightB (spl a).2) (rightB b) _ _ (T (Nat.gcd (dval (spl a).2.data.toList) (dval b.data.toList))) _ rfl rfl rfl (fun W=>c1_Right.calls _ _ W rfl) (fun W=>c1_Right.calls _ _ W rfl) (fun h1 h2 => ?_) (fun W=>c1_Whole.calls 0 _ _ _ W whole0) ?_
  · obtain ⟨m,hm,hm2⟩:=right_iff.1 h1
    obtain ⟨n,hn,hn2⟩:=right_iff.1 h2
    have sm:=(zaM (k:=600) (by decide)).2 hm2
    have sn:=(zaM (k:=600) (by decide)).2 hn2
    rw [hm,hn,zbi,zbi]
    exact fun W=>c1_Common.calls _ _ _ W (Common_T (by omega) (by omega))
  · unfold FOf
    have e:(coreB (spl a).1 (spl a).2 b=true)=(rightB (spl a).2=true∧rightB b=true∧(b.toList == ([48]:List UInt8))=false∧((spl a).1=true→((spl a).2.toList == ([48]:List UInt8))=false)∧(T (Nat.gcd (dval (spl a).2.data.toList) (dval b.data.toList))).toList=([49]:List UInt8)):=by
      rw [z48,z48,T_is1]
      unfold coreB
      simp only [Bool.and_eq_true,decide_eq_true_eq,and_assoc]
    simp only [e]
theorem zbf {a b:ByteArray} {x:Rat} (h:RR a b x):Ans 22 #[.agg #[.string a,.string b]] (.tuple #[FrV x,.bool true]):=by
  have h1:=fracof_any a b
  have hs:spl a=(decide (x.num<0),T x.num.natAbs):=by
    rw [h.num]
    have e:=spl_wtext (decide (x.num<0)) x.num.natAbs (fun e=>by have:=of_decide_eq_true e; omega)
    rw [zbZ] at e
    exact e
  rw [if_pos ((core_iff a b).2 ⟨x,h⟩),hs,h.den] at h1
  rw [h.den]
  exact h1
theorem zcW {a b:ByteArray} (h:¬ ∃ x,RR a b x):Ans 22 #[.agg #[.string a,.string b]] (.tuple #[.agg #[.bool false,.string (T 0),.string (T 1)],.bool false]):=by
  have h1:=fracof_any a b
  rw [core_no h,if_neg (by decide)] at h1
  exact h1
end Go.Proofs.ZQ
end
section
namespace Go.Proofs.ZQ
open Go.RowKit Go.Proofs.ZW.Wa Go.Proofs.ZP Go.Proofs.ZW.Wb Go.Proofs.ZW.Wc
attribute [local go_sem] zaE zaD zaL zaK
theorem repeat_calls (c:Nat) (w:World) (hc:c≤100000):Calls Tryz.prog 99 #[.string ⟨#[48]⟩,.int .i64 c] w fun e w'=>e = .returned (.string (zer c))∧Below w.heap.size w w':=by
 rcases (show c=0∨c=1∨2≤c by omega) with rfl|rfl|h2
 ·refine (Tryz.strings_Repeat_zero ⟨#[48]⟩ w).mono ?_
  rintro e w' ⟨he,rfl⟩
  exact ⟨he,Below.refl _ _⟩
 ·refine (Tryz.strings_Repeat_one ⟨#[48]⟩ w).mono ?_
  rintro e w' ⟨he,rfl⟩
  exact ⟨he,Below.refl _ _⟩
 ·refine (Tryz.strings_Repeat_main ⟨#[48]⟩ c w h2 (by omega) (by show 1*c≤_; omega) (by decide)).mono ?_
  rintro e w' ⟨he,hb⟩
  refine ⟨he.trans ?_,hb⟩
  have hrl:∀ c,Lib.repeatL [(48:UInt8)] c=List.replicate c 48:=fun c=>by
   induction c with
   | zero=>rfl
   | succ n ih=>simp [Lib.repeatL,ih,List.replicate_succ]
  unfold zer
  rw [show (⟨#[48]⟩:ByteArray).data.toList = [48] from rfl,hrl]
def plcR (d:ByteArray) (e:Int) (it:ByteArray):ByteArray:=
 if e < -5∨max (d.size:Int) 6≤e then ((if 1<d.size then d.extract 0 1++((⟨#[46]⟩:ByteArray)++d.extract 1 d.size) else d.extract 0 1)++(⟨#[101]⟩:ByteArray))++it
 else if e<0 then ((⟨#[48,46]⟩:ByteArray)++zer (-e-1).toNat)++d
 else if (d.size:Int)-1≤e then d++zer (e-d.size+1).toNat
 else (d.extract 0 (e+1).toNat++(⟨#[46]⟩:ByteArray))++d.extract (e+1).toNat d.size
theorem placed_exp (d it:ByteArray) (e:Int) (w:World) (hd:1≤d.size∧d.size≤5000) (hit:it.size≤1000) (he:e < -5∨max (d.size:Int) 6≤e) (hl : -100000≤e∧e≤100000) (HI:Calls Tryz.prog 170 #[.int .i64 e] w fun r w'=>r = .returned (.string it)∧Below w.heap.size w w') :
  Calls Tryz.prog 92 #[.string d,.int .i64 e] w fun r w'=>r = .returned (.string (plcR d e it))∧Below w.heap.size w w':=by
 have HV:=Lib.hid (show plcR d e it=_ from if_pos he)
 have HI:=Lib.hid HI
 have hle1:(1:Int)≤(d.size:Int):=by omega
 have hx0:(d.extract 0 1).size=1:=by rw [ByteArray.size_extract]; omega
 have hx1:(d.extract 1 d.size).size=d.size-1:=by rw [ByteArray.size_extract]; omega
 have hs1:(⟨#[46]⟩:ByteArray).size+(d.extract 1 d.size).size≤9223372036854775807:=by rw [hx1]; show 1+_≤_; omega
 have hs2:(d.extract 0 1).size+((⟨#[46]⟩:ByteArray)++d.extract 1 d.size).size≤9223372036854775807:=by rw [ByteArray.size_append,hx0,hx1]; show 1+(1+_)≤_; omega
 rcases (show (e < -5∨(¬ e < -5∧(d.size:Int)<6)∨(¬ e < -5∧¬ (d.size:Int)<6)) by omega) with h5|⟨h5,h6⟩|⟨h5,h6⟩<;>rcases (show (d.size:Int)>1∨¬ (d.size:Int)>1 by omega) with h1|h1
 all_goals
  try (have h7:e≥6:=by omega)
  try (have h8:e≥(d.size:Int):=by omega)
  go_enter Tryz.func92,Tryz.ntmps92
  go_wp2_with fail
  refine HI.out.mono ?_
  rintro r w1 ⟨rfl,hb⟩
  have HB:=Lib.hid hb
  clear hb
  go_wp2
  go_ret
  exact ⟨by rw [HV.out]; first|(rw [if_pos (by omega)]; rfl)|(rw [if_neg (by omega)]; rfl),HB.out⟩
end Go.Proofs.ZQ
end
