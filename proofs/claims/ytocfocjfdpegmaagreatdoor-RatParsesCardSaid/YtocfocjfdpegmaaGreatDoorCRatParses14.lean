/- Texts under the proof, joined by a program (prune.py): QRefForm2, SFormBare. -/
import Derived.Test.YtocfocjfdpegmaaGreatDoorCRatParses13
import Derived.Test.YtocfocjfdpegmaaGreatDoorCRatParses06
set_option linter.unusedVariables false
set_option linter.unusedSimpArgs false
set_option exponentiation.threshold 20001
set_option maxHeartbeats 8000000
set_option maxRecDepth 100000
section
namespace Go.Proofs.ZQ
open Go.RowKit Go.Proofs.ZW.Wa Go.Proofs.ZW.Wb Go.Proofs.ZW.Wc Go.Proofs.ZP
def Ct.obj (c:Ct):Array Value:=#[.bool c.neg,.string c.m,.string c.exp,.bool c.down,.int .i64 c.point,.string c.den,.int .i64 c.at_]
def CtAt (w:World) (b:Nat) (c:Ct):Prop:=w.heap[b]? = some (.cells c.obj 120 (0,0))
theorem CtAt.c {w:World} {b:Nat} {c:Ct} (h:CtAt w b c) (j:Nat) (v:Value) (he:c.obj[j]? = some v):w.cell? ⟨b,j,none⟩=some v:=(zaf h j).trans he
theorem CtAt.fz {w:World} {b:Nat} {c:Ct} (h:CtAt w b c) (j:Nat):w.frozen? ⟨b,j,none⟩=false:=zad h j
theorem ct_drew {w:World} {b:Nat} {c:Ct} (h:CtAt w b c):CtAt w.drew b c:=h
theorem CtAt.below {w w':World} {b:Nat} {c:Ct} (h:CtAt w b c) (hb:Below w.heap.size w w'):CtAt w' b c:=(hb.block _ (zas h)).trans h
theorem CtAt.set {w:World} {b:Nat} {c c':Ct} (h:CtAt w b c) (j:Nat) (v:Value) (he:c.obj.setIfInBounds j v=c'.obj):CtAt (w.setCell ⟨b,j,none⟩ v) b c':=(zav h j v).trans (by rw [he])
theorem CtAt.other {w:World} {b D:Nat} {c:Ct} (h:CtAt w b c) (j:Nat) (v:Value) (hn:b≠D):CtAt (w.setCell ⟨D,j,none⟩ v) b c:=(Below.heap_setCell w ⟨D,j,none⟩ v b hn).trans h
theorem bset {w W:World} {R g j:Nat} {v:Value} (e:w.heap.size=R) (h:Below R w W) (hg:R≤g):Below R w (W.setCell ⟨g,j,none⟩ v):=by
  subst e
  exact zag h hg
theorem bth {w w1 w2:World} {R:Nat} (e:w.heap.size=R) (h:Below R w w1) (k:Below w1.heap.size w1 w2):Below R w w2:=by
  subst e
  exact below_then h h.size k
theorem CtAt.c0 {w:World} {b:Nat} {n:Bool} {m x:ByteArray} {d:Bool} {p:Int} {g:ByteArray} {a:Int} (h:CtAt w b ⟨n,m,x,d,p,g,a⟩):w.cell? ⟨b,0,none⟩=some (.bool n):=h.c 0 _ rfl
theorem CtAt.c1 {w:World} {b:Nat} {n:Bool} {m x:ByteArray} {d:Bool} {p:Int} {g:ByteArray} {a:Int} (h:CtAt w b ⟨n,m,x,d,p,g,a⟩):w.cell? ⟨b,1,none⟩=some (.string m):=h.c 1 _ rfl
theorem CtAt.c2 {w:World} {b:Nat} {n:Bool} {m x:ByteArray} {d:Bool} {p:Int} {g:ByteArray} {a:Int} (h:CtAt w b ⟨n,m,x,d,p,g,a⟩):w.cell? ⟨b,2,none⟩=some (.string x):=h.c 2 _ rfl
theorem CtAt.c3 {w:World} {b:Nat} {n:Bool} {m x:ByteArray} {d:Bool} {p:Int} {g:ByteArray} {a:Int} (h:CtAt w b ⟨n,m,x,d,p,g,a⟩):w.cell? ⟨b,3,none⟩=some (.bool d):=h.c 3 _ rfl
theorem CtAt.c4 {w:World} {b:Nat} {n:Bool} {m x:ByteArray} {d:Bool} {p:Int} {g:ByteArray} {a:Int} (h:CtAt w b ⟨n,m,x,d,p,g,a⟩):w.cell? ⟨b,4,none⟩=some (.int .i64 p):=h.c 4 _ rfl
theorem CtAt.c5 {w:World} {b:Nat} {n:Bool} {m x:ByteArray} {d:Bool} {p:Int} {g:ByteArray} {a:Int} (h:CtAt w b ⟨n,m,x,d,p,g,a⟩):w.cell? ⟨b,5,none⟩=some (.string g):=h.c 5 _ rfl
theorem CtAt.c6 {w:World} {b:Nat} {n:Bool} {m x:ByteArray} {d:Bool} {p:Int} {g:ByteArray} {a:Int} (h:CtAt w b ⟨n,m,x,d,p,g,a⟩):w.cell? ⟨b,6,none⟩=some (.int .i64 a):=h.c 6 _ rfl
theorem ct_put {w w2:World} {R:Nat} {c:Ct} (e:w.heap.size=R) (f:CtAt w2 R c) (hb:Below R w w2) (n:Bool) (m x:ByteArray) (d:Bool) (p:Int) (g:ByteArray) (a:Int) :
    CtAt (((((((w2.setCell ⟨R,0,none⟩ (.bool n)).setCell ⟨R,1,none⟩ (.string m)).setCell ⟨R,2,none⟩ (.string x)).setCell ⟨R,3,none⟩ (.bool d)).setCell ⟨R,4,none⟩ (.int .i64 p)).setCell ⟨R,5,none⟩ (.string g)).setCell ⟨R,6,none⟩ (.int .i64 a)) R ⟨n,m,x,d,p,g,a⟩∧Below R w (((((((w2.setCell ⟨R,0,none⟩ (.bool n)).setCell ⟨R,1,none⟩ (.string m)).setCell ⟨R,2,none⟩ (.string x)).setCell ⟨R,3,none⟩ (.bool d)).setCell ⟨R,4,none⟩ (.int .i64 p)).setCell ⟨R,5,none⟩ (.string g)).setCell ⟨R,6,none⟩ (.int .i64 a)):=
  ⟨(CtAt.set (c':=⟨n,m,x,d,p,g,a⟩) (CtAt.set (c':=⟨n,m,x,d,p,g,c.at_⟩) (CtAt.set (c':=⟨n,m,x,d,p,c.den,c.at_⟩) (CtAt.set (c':=⟨n,m,x,d,c.point,c.den,c.at_⟩) (CtAt.set (c':=⟨n,m,x,c.down,c.point,c.den,c.at_⟩) (CtAt.set (c':=⟨n,m,c.exp,c.down,c.point,c.den,c.at_⟩) (CtAt.set (c':=⟨n,c.m,c.exp,c.down,c.point,c.den,c.at_⟩) f 0 _ rfl) 1 _ rfl) 2 _ rfl) 3 _ rfl) 4 _ rfl) 5 _ rfl) 6 _ rfl),(bset e (bset e (bset e (bset e (bset e (bset e (bset e hb (Nat.le_refl _)) (Nat.le_refl _)) (Nat.le_refl _)) (Nat.le_refl _)) (Nat.le_refl _)) (Nat.le_refl _)) (Nat.le_refl _))⟩
theorem ct_start (w:World):CtAt ((w.alloc (.cells (Ct.zero false).obj 120)).alloc (.cells (Ct.zero false).obj 120)) w.heap.size (Ct.zero false)∧CtAt ((w.alloc (.cells (Ct.zero false).obj 120)).alloc (.cells (Ct.zero false).obj 120)) (w.heap.size+1) (Ct.zero false)∧Below w.heap.size w ((w.alloc (.cells (Ct.zero false).obj 120)).alloc (.cells (Ct.zero false).obj 120)):=by
  refine ⟨?_,?_,zaa (zaa (Below.refl _ _) _) _⟩
  · exact CtAt.below (w:=w.alloc (.cells (Ct.zero false).obj 120)) (zau w _) (zaa (Below.refl _ _) _)
  · have h:=zau (w.alloc (.cells (Ct.zero false).obj 120)) (.cells (Ct.zero false).obj 120)
    rw [World.size_alloc] at h
    exact h
theorem tl_loop (s:ByteArray):∀ (d i:Nat) (r:List UInt8),d=s.size-i→(ByteArray.toList.loop s i r).length=r.length+d:=by
  intro d
  induction d with
  | zero=>intro i r h; rw [ByteArray.toList.loop,if_neg (by omega)]; simp
  | succ d ih=>intro i r h; rw [ByteArray.toList.loop,if_pos (by omega),ih (i+1) _ (by omega),List.length_cons]; omega
theorem tl_len (s:ByteArray):s.toList.length=s.size:=by
  unfold ByteArray.toList
  rw [tl_loop s s.size 0 [] (by omega)]; simp
theorem tl_ne {s:ByteArray} (h:0<s.size):¬ s.toList = []:=by
  intro e
  have h2:s.size=0:=by rw [←tl_len,e]; rfl
  omega
theorem zbd (s:ByteArray) (i:Nat) (c:UInt8) (n:Int) (hn:(c.toNat:Int)=n):(isC s i c=false∧¬ i<s.size)∨∃ h:i<s.size,(((s[i]'h).toNat:Int) == n)=isC s i c:=by
  by_cases h:i<s.size
  · refine Or.inr ⟨h,?_⟩
    unfold isC
    rw [chr_at h,←hn]
    by_cases he:s[i]'h=c
    · rw [he]; simp
    · have h1:(some (s[i]'h) == some c)=false:=beq_eq_false_iff_ne.2 (fun e=>he (Option.some.inj e))
      rw [h1,beq_eq_false_iff_ne]
      exact fun e=>he (UInt8.toNat_inj.1 (by omega))
  · exact Or.inl ⟨by unfold isC; rw [chr_out h]; rfl,h⟩
def Mt (R X:Nat) (w:World) (c:Ct) (wx:World):Prop:=CtAt wx R (Ct.zero false)∧CtAt wx X c∧Below R w wx
def M0 (b:Bool) (w:World) (v13:Value) (wx:World):Prop:=v13 = .bool b∧wx=w
def M1 (s:ByteArray) (R X:Nat) (w:World) (v5:Value) (wx:World):Prop:=v5 = .int .i64 ((sgA s:Nat):Int)∧Mt R X w (Ct.zero (isC s 0 45)) wx
def M2 (s:ByteArray) (R X:Nat) (w:World) (v5 v6:Value) (wx:World):Prop:=∃ c e,e≤s.size∧v6 = .int .i64 ((e:Nat):Int)∧formR s=expF s c e∧c.m.size≤200000∧Mt R X w c wx
def M3 (s:ByteArray) (R X:Nat) (w:World) (v5:Value) (wx:World):Prop:=∃ c a,a≤s.size∧v5 = .int .i64 ((a:Nat):Int)∧formR s=sgF s c a∧c.m.size≤200000∧Mt R X w c wx
def M4 (s:ByteArray) (R X:Nat) (w:World) (v5 v6:Value) (wx:World):Prop:=∃ c e,e≤s.size∧v6 = .int .i64 ((e:Nat):Int)∧formR s=finF s c e∧c.m.size≤200000∧Mt R X w c wx
theorem ext2_le {s:ByteArray} {a b c d:Nat} (hs:s.size≤65536):(s.extract a b++s.extract c d).size≤200000:=by
  rw [ByteArray.size_append,ByteArray.size_extract,ByteArray.size_extract]
  omega
theorem formR_at {s:ByteArray} {A E:Nat} (hA:sgA s=A) (hE:ZP.runN s.data.toList A=E):formR s=if E=A then (Ct.zero (isC s 0 45),((A:Nat):Int)) else if isC s E 47 then slF s (isC s 0 45) A E (rn s (E+1)) else ptF s { Ct.zero (isC s 0 45) with m:=s.extract A E } E:=by
  subst hA
  subst hE
  rfl
theorem rn_ge (s:ByteArray) (i:Nat):i≤rn s i:=runN_ge _ _
theorem sgA_le (s:ByteArray):sgA s≤s.size:=by
  unfold sgA
  split
  · rename_i h; have:=zbQ h; omega
  · omega
theorem form_walk1 (s : ByteArray) (hs : s.size ≤ 65536) (hh : ZP.runN s.data.toList (sgA s) = sgA s ∨ isC s (ZP.runN s.data.toList (sgA s)) 47 = true) : Ans 116 #[.string s] (.tuple #[.agg (formR s).1.obj, .int .i64 (formR s).2]) := by
  intro w
  have HH:=Lib.hid hh
  clear hh
  have HRUN:=Lib.hid (fun i (h:i≤s.size)=>run_ans s i hs h)
  have HBARE:=Lib.hid (fun (m:ByteArray) (h:m.size≤200000)=>bare_ans m h)
  obtain ⟨f2,f4,hb0⟩:=ct_start w
  have hne:=(show w.heap.size≠w.heap.size+1 by omega)
  have hcases:=zbd s 0 45 45 rfl
  go_enter Tryz.func116,Tryz.ntmps116
  go_upto_region 3 with fail
  go_cut [13] from 7 to 13 (M0 (isC s 0 45) ((w.alloc (.cells (Ct.zero false).obj 120)).alloc (.cells (Ct.zero false).obj 120)))
  case first =>
    clear HRUN HBARE f2 f4 hb0 hne
    have HB:=Lib.hid hcases
    generalize isC s 0 45=b at *
    clear hcases
    obtain ⟨rfl,hp⟩|⟨hp,hb⟩:=HB.out
    · have he:s=⟨#[]⟩:=by
        apply ByteArray.ext; apply Array.ext'; exact List.eq_nil_of_length_eq_zero (by rw [zah]; omega)
      subst he
      go_wp2_with fail
      go_meet
      exact ⟨rfl,rfl⟩
    · have hl:¬ s.toList = []:=tl_ne hp
      have hl2:s.toList.isEmpty=false:=by cases h:s.toList with|nil=>exact absurd h hl|cons=>rfl
      clear HB
      go_wp2_with fail
      all_goals first
      | (exfalso; contradiction)
      | (go_meet
         exact ⟨by first|rfl|(rw [hl2]; rfl)|(rw [hb]),rfl⟩)
  case rest =>
    obtain ⟨rfl,rfl⟩:=hcut
    clear hcases
    have HNE:=Lib.hid hne
    clear hne
    have HGX:=Lib.hid (show w.heap.size≤w.heap.size+1 by omega)
    generalize hW:World.alloc _ _=W at *
    generalize hX:w.heap.size+1=X at *
    generalize hR:w.heap.size=R at *
    have HRS:=Lib.hid hR
    clear hW hX hR
    go_upto_if 13 with fail
    go_cut [5] from 7 to 14 (M1 s R X w)
    case first =>
      have HR:=Lib.hid f2
      have HX:=Lib.hid f4
      have HB:=Lib.hid hb0
      clear f2 f4 hb0 HRUN HBARE
      unfold M1 sgA at *
      generalize isC s 0 45=b at *
      cases b
      · go_wp2_with fail
        go_meet
        exact ⟨rfl,HR.out,HX.out,HB.out⟩
      · have c0:=HX.out.c 0 _ rfl
        have k0:=HX.out.fz 0
        go_wp2_with fail
        go_meet
        exact ⟨rfl,HR.out.other 0 _ HNE.out,HX.out.set 0 _ rfl,bset HRS.out HB.out HGX.out⟩
    case rest =>
      clear f2 f4 hb0
      obtain ⟨rfl,hr,hx,hbb⟩:=hcut
      have HR:=Lib.hid hr
      have HX:=Lib.hid hx
      have HB:=Lib.hid hbb
      clear hr hx hbb
      have HA:=Lib.hid (sgA_le s)
      have HS:=Lib.hid (fun l (h:l<s.size)=>(⟨h,rn_le (s:=s) h⟩:l<s.size∧rn s (l+1)≤s.size))
      have HSZ:=Lib.hid (show s.size≤65536 from hs)
      go_wp2_with fail
      refine (HRUN.out _ HA.out _).mono ?_
      rintro e w1 ⟨rfl,hb⟩
      replace HX:=Lib.hid (HX.out.below hb)
      replace HR:=Lib.hid (HR.out.below hb)
      replace HB:=Lib.hid (bth HRS.out HB.out hb)
      clear hb
      generalize hA:sgA s=A at *
      generalize hE:ZP.runN s.data.toList A=E at *
      have HV:=Lib.hid (formR_at hA hE)
      have hEG:=(show A≤E by rw [←hE]; exact rn_ge s A)
      have hEL:=(show E≤s.size by rw [←hE]; exact rn_le HA.out)
      clear hA hE
      by_cases hEA:E=A
      · have HE:=Lib.hid (show formR s=(Ct.zero (isC s 0 45),((A:Nat):Int)) from HV.out.trans (if_pos hEA))
        subst hEA
        generalize isC s 0 45=b0 at *
        have c0:=HX.out.c0
        have g0:=HR.out.c0
        have k0:=HR.out.fz 0
        have c1:=HX.out.c1
        have g1:=HR.out.c1
        have k1:=HR.out.fz 1
        have c2:=HX.out.c2
        have g2:=HR.out.c2
        have k2:=HR.out.fz 2
        have c3:=HX.out.c3
        have g3:=HR.out.c3
        have k3:=HR.out.fz 3
        have c4:=HX.out.c4
        have g4:=HR.out.c4
        have k4:=HR.out.fz 4
        have c5:=HX.out.c5
        have g5:=HR.out.c5
        have k5:=HR.out.fz 5
        have c6:=HX.out.c6
        have g6:=HR.out.c6
        have k6:=HR.out.fz 6
        obtain ⟨hF,hBF⟩:=ct_put HRS.out HR.out HB.out b0 ⟨#[]⟩ ⟨#[]⟩ false 0 ⟨#[]⟩ 0
        have HF:=Lib.hid hF
        have HBF:=Lib.hid hBF
        clear hF hBF
        go_wp2_with fail
        refine bodyPost_ret (zaC rfl _ _ R 120 #[.bool b0,.string ⟨#[]⟩,.string ⟨#[]⟩,.bool false,.int .i64 0,.string ⟨#[]⟩,.int .i64 0] (0,0) _ rfl HF.out Tryz.underlying120 rfl (by kernel_rfl)) rfl ?_
        exact ⟨by rw [HE.out]; rfl,HRS.out ▸ HBF.out⟩
      have HVN:=Lib.hid (HV.out.trans (if_neg hEA))
      have HEA:=Lib.hid hEA
      have hEb:(((E:Nat):Int) == ((A:Nat):Int))=false:=by rw [beq_eq_false_iff_ne]; omega
      clear HV
      have HES:=Lib.hid hEL
      have HAE:=Lib.hid hEG
      have c1:=HX.out.c1
      have k1:=HX.out.fz 1
      have hAE:=HAE.out
      have hES:=HES.out
      go_upto_region 10 with fail
      replace HX:=Lib.hid (HX.out.set (c':=⟨isC s 0 45,s.extract A E,⟨#[]⟩,false,0,⟨#[]⟩,0⟩) 1 (.string (s.extract A E)) rfl)
      replace HR:=Lib.hid (HR.out.other 1 (.string (s.extract A E)) HNE.out)
      replace HB:=Lib.hid (bset (j:=1) (v:=.string (s.extract A E)) HRS.out HB.out HGX.out)
      clear c1 k1 hEb hEA hAE
      generalize World.setCell _ _ _=W2 at *
      go_cut [37] from 7 to 37 (M0 (isC s E 47) W2)
      case first =>
        have hcc:=zbd s E 47 47 rfl
        clear HRUN HBARE HX HR HB HNE HGX HRS HA HS HES HAE HVN
        have HB:=Lib.hid hcc
        generalize isC s E 47=b at *
        clear hcc
        obtain ⟨rfl,hp⟩|⟨hp,hb⟩:=HB.out
        · clear HB
          go_wp2_with fail
          go_meet
          exact ⟨rfl,rfl⟩
        · clear HB
          go_wp2_with fail
          go_meet
          exact ⟨by first|rfl|(rw [hb]),rfl⟩
      case rest =>
        obtain ⟨rfl,rfl⟩:=hcut
        have H47:=Lib.hid (show isC s E 47=true→E<s.size from zbQ)
        generalize isC s 0 45=b0 at *
        generalize isC s E 47=b47 at *
        cases b47
        · exact absurd HH.out (fun h=>h.elim HEA.out (fun h=>Bool.noConfusion h))
        · have HVP:=Lib.hid (HVN.out.trans (if_pos rfl))
          have hEs:=H47.out rfl
          clear HVN H47
          go_wp2_with fail
          rw [show ((E:Nat):Int)+1=((E+1:Nat):Int) from rfl]
          generalize ha:E+1=a at *
          have HAA:=Lib.hid ha
          have has:a≤s.size:=by omega
          refine (HRUN.out _ has _).mono ?_
          rintro e w2 ⟨rfl,hb⟩
          replace HX:=Lib.hid (HX.out.below hb)
          replace HR:=Lib.hid (HR.out.below hb)
          replace HB:=Lib.hid (bth HRS.out HB.out hb)
          clear hb
          have hFa:=rn_ge s a
          have hFs:=rn_le has
          change a≤ZP.runN s.data.toList a at hFa
          change ZP.runN s.data.toList a≤s.size at hFs
          obtain ⟨F,hF⟩:∃ F,ZP.runN s.data.toList a=F:=⟨_,rfl⟩
          rw [hF] at hFa hFs
          rw [hF]
          have HFF:=Lib.hid hF
          clear hF
          replace HVP:=Lib.hid (show formR s=slF s b0 A E F from by rw [←HFF.out]; exact HVP.out)
          go_wp2_with fail
          refine (HBARE.out _ (ext_le HSZ.out) _).mono ?_
          rintro e w3 ⟨rfl,hb⟩
          replace HX:=Lib.hid (HX.out.below hb)
          replace HR:=Lib.hid (HR.out.below hb)
          replace HB:=Lib.hid (bth HRS.out HB.out hb)
          clear hb
          have c5:=HX.out.c5
          have k5:=HX.out.fz 5
          have c6:=HX.out.c6
          have k6:=HX.out.fz 6
          go_upto_region 15 with fail
          replace HX:=Lib.hid (HX.out.set (c':=⟨b0,s.extract A E,⟨#[]⟩,false,0,bareT (s.extract a F),0⟩) 5 (.string (bareT (s.extract a F))) rfl)
          replace HR:=Lib.hid (HR.out.other 5 (.string (bareT (s.extract a F))) HNE.out)
          replace HB:=Lib.hid (bset (j:=5) (v:=.string (bareT (s.extract a F))) HRS.out HB.out HGX.out)
          replace HX:=Lib.hid (HX.out.set (c':=⟨b0,s.extract A E,⟨#[]⟩,false,0,bareT (s.extract a F),((a:Nat):Int)⟩) 6 (.int .i64 (((a:Nat):Int))) rfl)
          replace HR:=Lib.hid (HR.out.other 6 (.int .i64 (((a:Nat):Int))) HNE.out)
          replace HB:=Lib.hid (bset (j:=6) (v:=.int .i64 (((a:Nat):Int))) HRS.out HB.out HGX.out)
          clear c5 k5 c6 k6
          generalize World.setCell (World.setCell _ _ _) _ _=W4 at *
          by_cases hFA:F=a
          · have HE:=Lib.hid (HVP.out.trans (slF_yes HAA.out (Or.inl hFA)))
            clear HVP
            have hFb:(((F:Nat):Int) == ((a:Nat):Int))=true:=by rw [beq_iff_eq,hFA]
            clear hFA
            have c0:=HX.out.c0
            have g0:=HR.out.c0
            have k0:=HR.out.fz 0
            have c1:=HX.out.c1
            have g1:=HR.out.c1
            have k1:=HR.out.fz 1
            have c2:=HX.out.c2
            have g2:=HR.out.c2
            have k2:=HR.out.fz 2
            have c3:=HX.out.c3
            have g3:=HR.out.c3
            have k3:=HR.out.fz 3
            have c4:=HX.out.c4
            have g4:=HR.out.c4
            have k4:=HR.out.fz 4
            have c5:=HX.out.c5
            have g5:=HR.out.c5
            have k5:=HR.out.fz 5
            have c6:=HX.out.c6
            have g6:=HR.out.c6
            have k6:=HR.out.fz 6
            obtain ⟨hF,hBF⟩:=ct_put HRS.out HR.out HB.out b0 (s.extract A E) ⟨#[]⟩ false 0 (bareT (s.extract a F)) ((a:Nat):Int)
            have HF:=Lib.hid hF
            have HBF:=Lib.hid hBF
            clear hF hBF
            go_wp2_with fail
            refine bodyPost_ret (zaC rfl _ _ R 120 #[.bool b0,.string (s.extract A E),.string ⟨#[]⟩,.bool false,.int .i64 0,.string (bareT (s.extract a F)),.int .i64 ((a:Nat):Int)] (0,0) _ rfl HF.out Tryz.underlying120 rfl (by kernel_rfl)) rfl ?_
            exact ⟨by rw [HE.out]; rfl,HRS.out ▸ HBF.out⟩
          have hFb:(((F:Nat):Int) == ((a:Nat):Int))=false:=by rw [beq_eq_false_iff_ne]; omega
          by_cases hFS:F<s.size
          · have HE:=Lib.hid (HVP.out.trans (slF_yes HAA.out (Or.inr hFS)))
            clear HVP
            have c0:=HX.out.c0
            have g0:=HR.out.c0
            have k0:=HR.out.fz 0
            have c1:=HX.out.c1
            have g1:=HR.out.c1
            have k1:=HR.out.fz 1
            have c2:=HX.out.c2
            have g2:=HR.out.c2
            have k2:=HR.out.fz 2
            have c3:=HX.out.c3
            have g3:=HR.out.c3
            have k3:=HR.out.fz 3
            have c4:=HX.out.c4
            have g4:=HR.out.c4
            have k4:=HR.out.fz 4
            have c5:=HX.out.c5
            have g5:=HR.out.c5
            have k5:=HR.out.fz 5
            have c6:=HX.out.c6
            have g6:=HR.out.c6
            have k6:=HR.out.fz 6
            obtain ⟨hF,hBF⟩:=ct_put HRS.out HR.out HB.out b0 (s.extract A E) ⟨#[]⟩ false 0 (bareT (s.extract a F)) ((a:Nat):Int)
            have HF:=Lib.hid hF
            have HBF:=Lib.hid hBF
            clear hF hBF
            go_wp2_with fail
            refine bodyPost_ret (zaC rfl _ _ R 120 #[.bool b0,.string (s.extract A E),.string ⟨#[]⟩,.bool false,.int .i64 0,.string (bareT (s.extract a F)),.int .i64 ((a:Nat):Int)] (0,0) _ rfl HF.out Tryz.underlying120 rfl (by kernel_rfl)) rfl ?_
            exact ⟨by rw [HE.out]; rfl,HRS.out ▸ HBF.out⟩
          have HE:=Lib.hid (HVP.out.trans (slF_no HAA.out hFA hFS))
          clear HVP
          have c1:=HX.out.c1
          have k1:=HX.out.fz 1
          go_wp2_with fail
          refine (HBARE.out _ (ext_le HSZ.out) _).mono ?_
          rintro e w5 ⟨rfl,hb⟩
          replace HX:=Lib.hid (HX.out.below hb)
          replace HR:=Lib.hid (HR.out.below hb)
          replace HB:=Lib.hid (bth HRS.out HB.out hb)
          clear hb c1 k1
          have c1:=HX.out.c1
          have k1:=HX.out.fz 1
          go_upto_region 18 with fail
          replace HX:=Lib.hid (HX.out.set (c':=⟨b0,bareT (s.extract A E),⟨#[]⟩,false,0,bareT (s.extract a F),((a:Nat):Int)⟩) 1 (.string (bareT (s.extract A E))) rfl)
          replace HR:=Lib.hid (HR.out.other 1 (.string (bareT (s.extract A E))) HNE.out)
          replace HB:=Lib.hid (bset (j:=1) (v:=.string (bareT (s.extract A E))) HRS.out HB.out HGX.out)
          clear c1 k1
          generalize World.setCell _ _ _=W5 at *
          have c0:=HX.out.c0
          have g0:=HR.out.c0
          have k0:=HR.out.fz 0
          have c1:=HX.out.c1
          have g1:=HR.out.c1
          have k1:=HR.out.fz 1
          have c2:=HX.out.c2
          have g2:=HR.out.c2
          have k2:=HR.out.fz 2
          have c3:=HX.out.c3
          have g3:=HR.out.c3
          have k3:=HR.out.fz 3
          have c4:=HX.out.c4
          have g4:=HR.out.c4
          have k4:=HR.out.fz 4
          have c5:=HX.out.c5
          have g5:=HR.out.c5
          have k5:=HR.out.fz 5
          have c6:=HX.out.c6
          have g6:=HR.out.c6
          have k6:=HR.out.fz 6
          obtain ⟨hF,hBF⟩:=ct_put HRS.out HR.out HB.out b0 (bareT (s.extract A E)) ⟨#[]⟩ false 0 (bareT (s.extract a F)) ((a:Nat):Int)
          have HF:=Lib.hid hF
          have HBF:=Lib.hid hBF
          clear hF hBF
          go_wp2_with fail
          refine bodyPost_ret (zaC rfl _ _ R 120 #[.bool b0,.string (bareT (s.extract A E)),.string ⟨#[]⟩,.bool false,.int .i64 0,.string (bareT (s.extract a F)),.int .i64 ((a:Nat):Int)] (0,0) _ rfl HF.out Tryz.underlying120 rfl (by kernel_rfl)) rfl ?_
          exact ⟨by rw [HE.out]; rfl,HRS.out ▸ HBF.out⟩
theorem form_walk2 (s : ByteArray) (hs : s.size ≤ 65536) (h1 : ¬ ZP.runN s.data.toList (sgA s) = sgA s) (h2 : isC s (ZP.runN s.data.toList (sgA s)) 47 = false) : Ans 116 #[.string s] (.tuple #[.agg (formR s).1.obj, .int .i64 (formR s).2]) := by
  intro w
  have HH1:=Lib.hid h1
  have HH2:=Lib.hid h2
  clear h1 h2
  have HRUN:=Lib.hid (fun i (h:i≤s.size)=>run_ans s i hs h)
  have HBARE:=Lib.hid (fun (m:ByteArray) (h:m.size≤200000)=>bare_ans m h)
  obtain ⟨f2,f4,hb0⟩:=ct_start w
  have hne:=(show w.heap.size≠w.heap.size+1 by omega)
  have hcases:=zbd s 0 45 45 rfl
  go_enter Tryz.func116,Tryz.ntmps116
  go_upto_region 3 with fail
  go_cut [13] from 7 to 13 (M0 (isC s 0 45) ((w.alloc (.cells (Ct.zero false).obj 120)).alloc (.cells (Ct.zero false).obj 120)))
  case first =>
    clear HRUN HBARE f2 f4 hb0 hne
    have HB:=Lib.hid hcases
    generalize isC s 0 45=b at *
    clear hcases
    obtain ⟨rfl,hp⟩|⟨hp,hb⟩:=HB.out
    · have he:s=⟨#[]⟩:=by
        apply ByteArray.ext; apply Array.ext'; exact List.eq_nil_of_length_eq_zero (by rw [zah]; omega)
      subst he
      go_wp2_with fail
      go_meet
      exact ⟨rfl,rfl⟩
    · have hl:¬ s.toList = []:=tl_ne hp
      have hl2:s.toList.isEmpty=false:=by cases h:s.toList with|nil=>exact absurd h hl|cons=>rfl
      clear HB
      go_wp2_with fail
      all_goals first
      | (exfalso; contradiction)
      | (go_meet
         exact ⟨by first|rfl|(rw [hl2]; rfl)|(rw [hb]),rfl⟩)
  case rest =>
    obtain ⟨rfl,rfl⟩:=hcut
    clear hcases
    have HNE:=Lib.hid hne
    clear hne
    have HGX:=Lib.hid (show w.heap.size≤w.heap.size+1 by omega)
    generalize hW:World.alloc _ _=W at *
    generalize hX:w.heap.size+1=X at *
    generalize hR:w.heap.size=R at *
    have HRS:=Lib.hid hR
    clear hW hX hR
    go_upto_if 13 with fail
    go_cut [5] from 7 to 14 (M1 s R X w)
    case first =>
      have HR:=Lib.hid f2
      have HX:=Lib.hid f4
      have HB:=Lib.hid hb0
      clear f2 f4 hb0 HRUN HBARE
      unfold M1 sgA at *
      generalize isC s 0 45=b at *
      cases b
      · go_wp2_with fail
        go_meet
        exact ⟨rfl,HR.out,HX.out,HB.out⟩
      · have c0:=HX.out.c 0 _ rfl
        have k0:=HX.out.fz 0
        go_wp2_with fail
        go_meet
        exact ⟨rfl,HR.out.other 0 _ HNE.out,HX.out.set 0 _ rfl,bset HRS.out HB.out HGX.out⟩
    case rest =>
      clear f2 f4 hb0
      obtain ⟨rfl,hr,hx,hbb⟩:=hcut
      have HR:=Lib.hid hr
      have HX:=Lib.hid hx
      have HB:=Lib.hid hbb
      clear hr hx hbb
      have HA:=Lib.hid (sgA_le s)
      have HS:=Lib.hid (fun l (h:l<s.size)=>(⟨h,rn_le (s:=s) h⟩:l<s.size∧rn s (l+1)≤s.size))
      have HSZ:=Lib.hid (show s.size≤65536 from hs)
      go_wp2_with fail
      refine (HRUN.out _ HA.out _).mono ?_
      rintro e w1 ⟨rfl,hb⟩
      replace HX:=Lib.hid (HX.out.below hb)
      replace HR:=Lib.hid (HR.out.below hb)
      replace HB:=Lib.hid (bth HRS.out HB.out hb)
      clear hb
      generalize hA:sgA s=A at *
      generalize hE:ZP.runN s.data.toList A=E at *
      have HV:=Lib.hid (formR_at hA hE)
      have hEG:=(show A≤E by rw [←hE]; exact rn_ge s A)
      have hEL:=(show E≤s.size by rw [←hE]; exact rn_le HA.out)
      clear hA hE
      by_cases hEA:E=A
      · exact absurd hEA HH1.out
      have HVN:=Lib.hid (HV.out.trans (if_neg hEA))
      have HEA:=Lib.hid hEA
      have hEb:(((E:Nat):Int) == ((A:Nat):Int))=false:=by rw [beq_eq_false_iff_ne]; omega
      clear HV
      have HES:=Lib.hid hEL
      have HAE:=Lib.hid hEG
      have c1:=HX.out.c1
      have k1:=HX.out.fz 1
      have hAE:=HAE.out
      have hES:=HES.out
      go_upto_region 10 with fail
      replace HX:=Lib.hid (HX.out.set (c':=⟨isC s 0 45,s.extract A E,⟨#[]⟩,false,0,⟨#[]⟩,0⟩) 1 (.string (s.extract A E)) rfl)
      replace HR:=Lib.hid (HR.out.other 1 (.string (s.extract A E)) HNE.out)
      replace HB:=Lib.hid (bset (j:=1) (v:=.string (s.extract A E)) HRS.out HB.out HGX.out)
      clear c1 k1 hEb hEA hAE
      generalize World.setCell _ _ _=W2 at *
      go_cut [37] from 7 to 37 (M0 (isC s E 47) W2)
      case first =>
        have hcc:=zbd s E 47 47 rfl
        clear HRUN HBARE HX HR HB HNE HGX HRS HA HS HES HAE HVN
        have HB:=Lib.hid hcc
        generalize isC s E 47=b at *
        clear hcc
        obtain ⟨rfl,hp⟩|⟨hp,hb⟩:=HB.out
        · clear HB
          go_wp2_with fail
          go_meet
          exact ⟨rfl,rfl⟩
        · clear HB
          go_wp2_with fail
          go_meet
          exact ⟨by first|rfl|(rw [hb]),rfl⟩
      case rest =>
        obtain ⟨rfl,rfl⟩:=hcut
        have H47:=Lib.hid (show isC s E 47=true→E<s.size from zbQ)
        generalize isC s 0 45=b0 at *
        generalize isC s E 47=b47 at *
        cases b47
        · have HVP:=Lib.hid (HVN.out.trans (if_neg (by decide)))
          clear HVN H47
          go_upto_region 19 with fail
          go_cut [76] from 7 to 76 (M0 (isC s E 46) wc)
          case first =>
            have hcc:=zbd s E 46 46 rfl
            clear HRUN HBARE HX HR HB HNE HGX HRS HA HS HES HAE HVP
            have HB:=Lib.hid hcc
            generalize isC s E 46=b at *
            clear hcc
            obtain ⟨rfl,hp⟩|⟨hp,hb⟩:=HB.out
            · clear HB
              go_wp2_with fail
              go_meet
              exact ⟨rfl,rfl⟩
            · clear HB
              go_wp2_with fail
              go_meet
              exact ⟨by first|rfl|(rw [hb]),rfl⟩
          case rest =>
            obtain ⟨rfl,rfl⟩:=hcut
            have H46:=Lib.hid (show isC s E 46=true→E<s.size from zbQ)
            clear HA HS HAE
            go_upto_if 76 with fail
            go_cut [5,6] from 7 to 98 (M2 s R X w)
            case first =>
              cases h46:isC s E 46
              · have HVQ:=Lib.hid (HVP.out.trans (ptF_no h46))
                clear HVP H46 h46
                go_wp2_with fail
                go_meet
                exact ⟨_,E,HES.out,rfl,HVQ.out,ext_le HSZ.out,HR.out,HX.out,HB.out⟩
              · have hEs:=H46.out h46
                have H46:=Lib.hid h46
                clear h46
                go_wp2_with fail
                rw [show ((E:Nat):Int)+1=((E+1:Nat):Int) from rfl]
                generalize ha:E+1=a at *
                have HAA:=Lib.hid ha
                have has:a≤s.size:=by omega
                refine (HRUN.out _ has _).mono ?_
                rintro e w4 ⟨rfl,hb⟩
                replace HX:=Lib.hid (HX.out.below hb)
                replace HR:=Lib.hid (HR.out.below hb)
                replace HB:=Lib.hid (bth HRS.out HB.out hb)
                clear hb
                have hFa:=rn_ge s a
                have hFs:=rn_le has
                change a≤ZP.runN s.data.toList a at hFa
                change ZP.runN s.data.toList a≤s.size at hFs
                obtain ⟨F,hF⟩:∃ F,ZP.runN s.data.toList a=F:=⟨_,rfl⟩
                rw [hF] at hFa hFs
                rw [hF]
                have HFF:=Lib.hid hF
                clear hF
                by_cases hFA:F=a
                · have HE:=Lib.hid (HVP.out.trans (ptF_stop H46.out HAA.out (HFF.out.trans hFA)))
                  subst hFA
                  clear HFF
                  have c0:=HX.out.c0
                  have g0:=HR.out.c0
                  have k0:=HR.out.fz 0
                  have c1:=HX.out.c1
                  have g1:=HR.out.c1
                  have k1:=HR.out.fz 1
                  have c2:=HX.out.c2
                  have g2:=HR.out.c2
                  have k2:=HR.out.fz 2
                  have c3:=HX.out.c3
                  have g3:=HR.out.c3
                  have k3:=HR.out.fz 3
                  have c4:=HX.out.c4
                  have g4:=HR.out.c4
                  have k4:=HR.out.fz 4
                  have c5:=HX.out.c5
                  have g5:=HR.out.c5
                  have k5:=HR.out.fz 5
                  have c6:=HX.out.c6
                  have g6:=HR.out.c6
                  have k6:=HR.out.fz 6
                  obtain ⟨hF,hBF⟩:=ct_put HRS.out HR.out HB.out b0 (s.extract A E) ⟨#[]⟩ false 0 ⟨#[]⟩ 0
                  have HF:=Lib.hid hF
                  have HBF:=Lib.hid hBF
                  clear hF hBF
                  go_wp2_with fail
                  refine bodyPost_ret (zaC rfl _ _ R 120 #[.bool b0,.string (s.extract A E),.string ⟨#[]⟩,.bool false,.int .i64 0,.string ⟨#[]⟩,.int .i64 0] (0,0) _ rfl HF.out Tryz.underlying120 rfl (by kernel_rfl)) rfl ?_
                  exact ⟨by rw [HE.out]; rfl,HRS.out ▸ HBF.out⟩
                have HVQ:=Lib.hid (HVP.out.trans (ptF_go H46.out HAA.out HFF.out hFA))
                have hFb:(((F:Nat):Int) == ((a:Nat):Int))=false:=by rw [beq_eq_false_iff_ne]; omega
                clear HVP H46 HFF HAA
                have c1:=HX.out.c1
                have k1:=HX.out.fz 1
                have c4:=HX.out.c4
                have k4:=HX.out.fz 4
                go_upto_region 24 with fail
                go_region_with (fail)
                rename_i hbig
                clear hbig
                replace HX:=Lib.hid (HX.out.set (c':=⟨b0,s.extract A E++s.extract a F,⟨#[]⟩,false,0,⟨#[]⟩,0⟩) 1 (.string (s.extract A E++s.extract a F)) rfl)
                replace HR:=Lib.hid (HR.out.other 1 (.string (s.extract A E++s.extract a F)) HNE.out)
                replace HB:=Lib.hid (bset (j:=1) (v:=.string (s.extract A E++s.extract a F)) HRS.out HB.out HGX.out)
                replace HX:=Lib.hid (ct_drew HX.out)
                replace HR:=Lib.hid (ct_drew HR.out)
                replace HB:=Lib.hid (zae HB.out)
                clear c1 k1 c4 k4
                generalize World.drew _=W6 at *
                have c4:=HX.out.c4
                have k4:=HX.out.fz 4
                go_wp2_with fail
                go_meet
                exact ⟨_,F,hFs,rfl,HVQ.out,ext2_le HSZ.out,HR.out.other 4 _ HNE.out,HX.out.set (c':=⟨b0,s.extract A E++s.extract a F,⟨#[]⟩,false,((F:Nat):Int)-((a:Nat):Int),⟨#[]⟩,0⟩) 4 _ rfl,bset HRS.out HB.out HGX.out⟩
            case rest =>
              clear HVP HR HX HB HES H46
              obtain ⟨c,e,hle,rfl,hv,hm,hr,hx,hbb⟩:=hcut
              obtain ⟨n,m,x,d,p,g,z⟩:=c
              have HR:=Lib.hid hr
              have HX:=Lib.hid hx
              have HB:=Lib.hid hbb
              clear hr hx hbb
              have HV:=Lib.hid hv
              have HM:=Lib.hid (show m.size≤200000 from hm)
              have HLE:=Lib.hid hle
              clear hv hm
              go_upto_region 26 with fail
              go_cut [114] from 7 to 114 (M0 (isC s e 101 || isC s e 69) wc)
              case first =>
                have hc1:=zbd s e 101 101 rfl
                have hc2:=zbd s e 69 69 rfl
                clear HRUN HBARE HX HR HB HNE HGX HRS HSZ HV HM HLE
                generalize isC s e 101=b1 at *
                generalize isC s e 69=b2 at *
                by_cases hp:e<s.size
                · have h1:(((s[e]'hp).toNat:Int) == 101)=b1:=by
                    obtain ⟨_,h⟩|⟨_,h⟩:=hc1
                    · exact absurd hp h
                    · exact h
                  have h2:(((s[e]'hp).toNat:Int) == 69)=b2:=by
                    obtain ⟨_,h⟩|⟨_,h⟩:=hc2
                    · exact absurd hp h
                    · exact h
                  clear hc1 hc2
                  cases b1
                  all_goals
                    go_wp2_with fail
                    go_meet
                    exact ⟨by first|rfl|(rw [h2]; rfl)|(rw [h1]; rfl)|(rw [h1,h2]; rfl),rfl⟩
                · have h1:b1=false:=by
                    obtain ⟨h,_⟩|⟨h,_⟩:=hc1
                    · exact h
                    · exact absurd h hp
                  have h2:b2=false:=by
                    obtain ⟨h,_⟩|⟨h,_⟩:=hc2
                    · exact h
                    · exact absurd h hp
                  clear hc1 hc2
                  subst h1
                  subst h2
                  go_wp2_with fail
                  go_meet
                  exact ⟨rfl,rfl⟩
              case rest =>
                obtain ⟨rfl,rfl⟩:=hcut
                go_upto_if 114 with fail
                go_cut [5,6] from 7 to 153 (M4 s R X w)
                case first =>
                  cases hb:(isC s e 101 || isC s e 69)
                  · have HVQ:=Lib.hid (HV.out.trans (expF_no hb))
                    clear HV hb
                    go_wp2_with fail
                    go_meet
                    exact ⟨_,e,HLE.out,rfl,HVQ.out,HM.out,HR.out,HX.out,HB.out⟩
                  · have hes:e<s.size:=by
                      rw [Bool.or_eq_true] at hb
                      exact hb.elim zbQ zbQ
                    have HEX:=Lib.hid hb
                    clear hb
                    go_upto_region 28 with fail
                    rw [show ((e:Nat):Int)+1=((e+1:Nat):Int) from rfl]
                    generalize ha:e+1=a at *
                    have HAA:=Lib.hid ha
                    have has:a≤s.size:=by omega
                    clear ha
                    go_cut [132] from 7 to 132 (M0 (isC s a 43 || isC s a 45) wc)
                    case first =>
                      have hc1:=zbd s a 43 43 rfl
                      have hc2:=zbd s a 45 45 rfl
                      clear HRUN HBARE HX HR HB HNE HGX HRS HSZ HV HM HLE HEX HAA hes
                      generalize isC s a 43=b1 at *
                      generalize isC s a 45=b2 at *
                      by_cases hp:a<s.size
                      · have h1:(((s[a]'hp).toNat:Int) == 43)=b1:=by
                          obtain ⟨_,h⟩|⟨_,h⟩:=hc1
                          · exact absurd hp h
                          · exact h
                        have h2:(((s[a]'hp).toNat:Int) == 45)=b2:=by
                          obtain ⟨_,h⟩|⟨_,h⟩:=hc2
                          · exact absurd hp h
                          · exact h
                        clear hc1 hc2
                        cases b1
                        all_goals
                          go_wp2_with fail
                          go_meet
                          exact ⟨by first|rfl|(rw [h2]; rfl)|(rw [h1]; rfl)|(rw [h1,h2]; rfl),rfl⟩
                      · have h1:b1=false:=by
                          obtain ⟨h,_⟩|⟨h,_⟩:=hc1
                          · exact h
                          · exact absurd h hp
                        have h2:b2=false:=by
                          obtain ⟨h,_⟩|⟨h,_⟩:=hc2
                          · exact h
                          · exact absurd h hp
                        clear hc1 hc2
                        subst h1
                        subst h2
                        go_wp2_with fail
                        go_meet
                        exact ⟨rfl,rfl⟩
                    case rest =>
                      obtain ⟨rfl,rfl⟩:=hcut
                      have HAS:=Lib.hid has
                      go_upto_if 132 with fail
                      go_cut [5] from 7 to 139 (M3 s R X w)
                      case first =>
                        cases hb:(isC s a 43 || isC s a 45)
                        · have HVQ:=Lib.hid (HV.out.trans (expF_ns HEX.out HAA.out hb))
                          clear HV hb
                          go_wp2_with fail
                          go_meet
                          exact ⟨_,a,HAS.out,rfl,HVQ.out,HM.out,HR.out,HX.out,HB.out⟩
                        · have hasz:a<s.size:=by
                            rw [Bool.or_eq_true] at hb
                            exact hb.elim zbQ zbQ
                          have hy0:(((s[a]'hasz).toNat:Int) == 45)=isC s a 45:=by
                            obtain ⟨_,h⟩|⟨_,h⟩:=zbd s a 45 45 rfl
                            · exact absurd hasz h
                            · exact h
                          have HSG:=Lib.hid hb
                          clear hb
                          have HY:=Lib.hid (show isC s a 45=isC s a 45↔True from ⟨fun _=>trivial,fun _=>rfl⟩)
                          obtain ⟨y,hy⟩:∃ y,isC s a 45=y:=⟨_,rfl⟩
                          have HYY:=Lib.hid hy
                          rw [hy] at hy0
                          clear hy HY
                          have c3:=HX.out.c3
                          have k3:=HX.out.fz 3
                          go_wp2_with fail
                          go_meet
                          exact ⟨⟨n,m,x,y,p,g,z⟩,a+1,hasz,rfl,HV.out.trans (expF_sg HEX.out HAA.out HSG.out rfl HYY.out),HM.out,HR.out.other 3 _ HNE.out,HX.out.set 3 _ (by rw [←hy0]; rfl),bset HRS.out HB.out HGX.out⟩
                      case rest =>
                        clear HV HR HX HB HEX HAA HAS HLE HM has hes hle
                        obtain ⟨c,a,hal,rfl,hv,hm,hr,hx,hbb⟩:=hcut
                        obtain ⟨n,m,x,d,p,g,z⟩:=c
                        have HR:=Lib.hid hr
                        have HX:=Lib.hid hx
                        have HB:=Lib.hid hbb
                        clear hr hx hbb
                        have HV:=Lib.hid hv
                        have HM:=Lib.hid (show m.size≤200000 from hm)
                        clear hv hm
                        go_wp2_with fail
                        refine (HRUN.out _ hal _).mono ?_
                        rintro e w7 ⟨rfl,hb⟩
                        replace HX:=Lib.hid (HX.out.below hb)
                        replace HR:=Lib.hid (HR.out.below hb)
                        replace HB:=Lib.hid (bth HRS.out HB.out hb)
                        clear hb
                        have hFa:=rn_ge s a
                        have hFs:=rn_le hal
                        change a≤ZP.runN s.data.toList a at hFa
                        change ZP.runN s.data.toList a≤s.size at hFs
                        obtain ⟨F,hF⟩:∃ F,ZP.runN s.data.toList a=F:=⟨_,rfl⟩
                        rw [hF] at hFa hFs
                        rw [hF]
                        have HFF:=Lib.hid hF
                        clear hF
                        by_cases hFA:F=a
                        · have HE:=Lib.hid (HV.out.trans (sgF_stop (HFF.out.trans hFA)))
                          subst hFA
                          clear HFF HV
                          have c0:=HX.out.c0
                          have g0:=HR.out.c0
                          have k0:=HR.out.fz 0
                          have c1:=HX.out.c1
                          have g1:=HR.out.c1
                          have k1:=HR.out.fz 1
                          have c2:=HX.out.c2
                          have g2:=HR.out.c2
                          have k2:=HR.out.fz 2
                          have c3:=HX.out.c3
                          have g3:=HR.out.c3
                          have k3:=HR.out.fz 3
                          have c4:=HX.out.c4
                          have g4:=HR.out.c4
                          have k4:=HR.out.fz 4
                          have c5:=HX.out.c5
                          have g5:=HR.out.c5
                          have k5:=HR.out.fz 5
                          have c6:=HX.out.c6
                          have g6:=HR.out.c6
                          have k6:=HR.out.fz 6
                          obtain ⟨hF,hBF⟩:=ct_put HRS.out HR.out HB.out n m x d p g z
                          have HF:=Lib.hid hF
                          have HBF:=Lib.hid hBF
                          clear hF hBF
                          go_wp2_with fail
                          refine bodyPost_ret (zaC rfl _ _ R 120 #[.bool n,.string m,.string x,.bool d,.int .i64 p,.string g,.int .i64 z] (0,0) _ rfl HF.out Tryz.underlying120 rfl (by kernel_rfl)) rfl ?_
                          exact ⟨by rw [HE.out]; rfl,HRS.out ▸ HBF.out⟩
                        have HVQ:=Lib.hid (HV.out.trans (sgF_go HFF.out hFA))
                        have hFb:(((F:Nat):Int) == ((a:Nat):Int))=false:=by rw [beq_eq_false_iff_ne]; omega
                        clear HV HFF
                        go_wp2_with fail
                        refine (HBARE.out _ (ext_le HSZ.out) _).mono ?_
                        rintro e w8 ⟨rfl,hb⟩
                        replace HX:=Lib.hid (HX.out.below hb)
                        replace HR:=Lib.hid (HR.out.below hb)
                        replace HB:=Lib.hid (bth HRS.out HB.out hb)
                        clear hb
                        have c2:=HX.out.c2
                        have k2:=HX.out.fz 2
                        go_wp2_with fail
                        go_meet
                        exact ⟨_,F,hFs,rfl,HVQ.out,HM.out,HR.out.other 2 _ HNE.out,HX.out.set (c':=⟨n,m,bareT (s.extract a F),d,p,g,z⟩) 2 _ rfl,bset HRS.out HB.out HGX.out⟩
                case rest =>
                  clear HV HR HX HB HLE HM hle
                  obtain ⟨c,e,hle,rfl,hv,hm,hr,hx,hbb⟩:=hcut
                  obtain ⟨n,m,x,d,p,g,z⟩:=c
                  have HR:=Lib.hid hr
                  have HX:=Lib.hid hx
                  have HB:=Lib.hid hbb
                  clear hr hx hbb
                  have HV:=Lib.hid hv
                  have HM:=Lib.hid (show m.size≤200000 from hm)
                  clear hv hm
                  have c1:=HX.out.c1
                  have k1:=HX.out.fz 1
                  go_wp2_with fail
                  refine (HBARE.out _ HM.out _).mono ?_
                  rintro e w9 ⟨rfl,hb⟩
                  replace HX:=Lib.hid (HX.out.below hb)
                  replace HR:=Lib.hid (HR.out.below hb)
                  replace HB:=Lib.hid (bth HRS.out HB.out hb)
                  clear hb c1 k1
                  have c1:=HX.out.c1
                  have k1:=HX.out.fz 1
                  go_upto_region 36 with fail
                  replace HX:=Lib.hid (HX.out.set (c':=⟨n,bareT m,x,d,p,g,z⟩) 1 (.string (bareT m)) rfl)
                  replace HR:=Lib.hid (HR.out.other 1 (.string (bareT m)) HNE.out)
                  replace HB:=Lib.hid (bset (j:=1) (v:=.string (bareT m)) HRS.out HB.out HGX.out)
                  clear c1 k1
                  generalize World.setCell _ _ _=W8 at *
                  by_cases hes:e<s.size
                  · have HE:=Lib.hid (HV.out.trans (finF_yes hes))
                    clear HV
                    have c0:=HX.out.c0
                    have g0:=HR.out.c0
                    have k0:=HR.out.fz 0
                    have c1:=HX.out.c1
                    have g1:=HR.out.c1
                    have k1:=HR.out.fz 1
                    have c2:=HX.out.c2
                    have g2:=HR.out.c2
                    have k2:=HR.out.fz 2
                    have c3:=HX.out.c3
                    have g3:=HR.out.c3
                    have k3:=HR.out.fz 3
                    have c4:=HX.out.c4
                    have g4:=HR.out.c4
                    have k4:=HR.out.fz 4
                    have c5:=HX.out.c5
                    have g5:=HR.out.c5
                    have k5:=HR.out.fz 5
                    have c6:=HX.out.c6
                    have g6:=HR.out.c6
                    have k6:=HR.out.fz 6
                    obtain ⟨hF,hBF⟩:=ct_put HRS.out HR.out HB.out n (bareT m) x d p g z
                    have HF:=Lib.hid hF
                    have HBF:=Lib.hid hBF
                    clear hF hBF
                    go_wp2_with fail
                    refine bodyPost_ret (zaC rfl _ _ R 120 #[.bool n,.string (bareT m),.string x,.bool d,.int .i64 p,.string g,.int .i64 z] (0,0) _ rfl HF.out Tryz.underlying120 rfl (by kernel_rfl)) rfl ?_
                    exact ⟨by rw [HE.out]; rfl,HRS.out ▸ HBF.out⟩
                  have HE:=Lib.hid (HV.out.trans (finF_no hes))
                  clear HV
                  obtain rfl:e=s.size:=by omega
                  clear hle hes
                  have c0:=HX.out.c0
                  have g0:=HR.out.c0
                  have k0:=HR.out.fz 0
                  have c1:=HX.out.c1
                  have g1:=HR.out.c1
                  have k1:=HR.out.fz 1
                  have c2:=HX.out.c2
                  have g2:=HR.out.c2
                  have k2:=HR.out.fz 2
                  have c3:=HX.out.c3
                  have g3:=HR.out.c3
                  have k3:=HR.out.fz 3
                  have c4:=HX.out.c4
                  have g4:=HR.out.c4
                  have k4:=HR.out.fz 4
                  have c5:=HX.out.c5
                  have g5:=HR.out.c5
                  have k5:=HR.out.fz 5
                  have c6:=HX.out.c6
                  have g6:=HR.out.c6
                  have k6:=HR.out.fz 6
                  obtain ⟨hF,hBF⟩:=ct_put HRS.out HR.out HB.out n (bareT m) x d p g z
                  have HF:=Lib.hid hF
                  have HBF:=Lib.hid hBF
                  clear hF hBF
                  go_wp2_with fail
                  refine bodyPost_ret (zaC rfl _ _ R 120 #[.bool n,.string (bareT m),.string x,.bool d,.int .i64 p,.string g,.int .i64 z] (0,0) _ rfl HF.out Tryz.underlying120 rfl (by kernel_rfl)) rfl ?_
                  exact ⟨by rw [HE.out]; rfl,HRS.out ▸ HBF.out⟩
        · exact Bool.noConfusion HH2.out
theorem form_ans (s:ByteArray) (hs:s.size≤65536):Ans 116 #[.string s] (.tuple #[.agg (formR s).1.obj,.int .i64 (formR s).2]):=by
  by_cases h1:ZP.runN s.data.toList (sgA s)=sgA s
  · exact form_walk1 s hs (Or.inl h1)
  · cases h2:isC s (ZP.runN s.data.toList (sgA s)) 47
    · exact form_walk2 s hs h1 h2
    · exact form_walk1 s hs (Or.inr h2)
theorem nz_can:∀ {l:List UInt8},0<l.length→Dig l→ZP.Can (l.drop (nzN l))∧dval (l.drop (nzN l))=dval l
 | [],h,_=>absurd h (by simp)
 | c :: t,h,hd=>by
  by_cases h1:1<(c :: t).length∧(c :: t).head? = some 48
  ·have ht:0<t.length:=by
    have:=h1.1
    rw [List.length_cons] at this
    omega
   obtain ⟨k1,k2⟩:=nz_can ht (fun x hx=>hd x (List.mem_cons_of_mem _ hx))
   have hc:c=48:=by simpa using h1.2
   have e:(c :: t).drop (nzN (c :: t))=t.drop (nzN t):=by
    rw [nzN_cons h1.1 h1.2,Nat.add_comm 1]
    rfl
   rw [e]
   refine ⟨k1,?_⟩
   rw [k2,zbE,hc]
   show dval t=(48-48)*_+dval t
   omega
  ·have h2:(c :: t).length≤1∨(c :: t).head? ≠ some 48:=by
    by_cases h3:1<(c :: t).length
    ·exact Or.inr (fun e=>h1 ⟨h3,e⟩)
    ·exact Or.inl (by omega)
   rw [nzN_stop h2,List.drop_zero]
   refine ⟨⟨h,hd,fun e => ?_⟩,rfl⟩
   rcases h2 with h2|h2
   ·simp only [List.length_cons] at h h2 ⊢; omega
   ·exact absurd e h2
theorem bare_T {s:ByteArray} (h:0<s.size) (hd:Dig s.data.toList):bareT s=T (dval s.data.toList):=by
 obtain ⟨k1,k2⟩:=nz_can (l:=s.data.toList) (by rw [zah]; exact h) hd
 have e:(bareT s).data.toList=s.data.toList.drop (nzN s.data.toList):=by
  unfold bareT
  simp only [ByteArray.data_extract,Array.toList_extract,List.extract_eq_take_drop]
  rw [List.take_of_length_le (by rw [List.length_drop,zah]; omega)]
 rw [←e] at k1 k2
 rw [←k2]
 exact can_T k1
end Go.Proofs.ZQ
end
