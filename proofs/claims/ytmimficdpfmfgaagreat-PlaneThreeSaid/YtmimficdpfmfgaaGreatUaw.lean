/- Laws for the walk. -/
import Derived.Test.YtmimficdpfmfgaaGreatUav
set_option linter.unusedVariables false
set_option maxHeartbeats 4000000
set_option maxRecDepth 100000
namespace Go.Proofs.YtmimficdpfmfgaaGreat
open Go.RowKit Tr
theorem formed_any(neg:Bool)(s:ByteArray)(r:Bool)(hr:r=true↔WForm neg s)(w:World) :
  Calls Tryz.prog 221 #[.agg #[.bool neg,.string s]] w fun e w'=>e=.returned (.bool r)∧Below w.heap.size w w':=by
 have HB:=Lib.hid (show Below w.heap.size w (w.alloc (.cells #[.bool neg,.string s] 24)) from br.alloc (Nat.le_refl _) _)
 rcases Nat.eq_zero_or_pos s.size with h0|h0
 ·have:=size_nil h0
  subst this
  have hr2:r=!neg:=by
   have:WForm neg ⟨#[]⟩↔neg=false:=⟨fun h=>h.1 rfl,fun h=>⟨fun _=>h,noLead_nil⟩⟩
   rw[this] at hr
   cases neg<;>cases r<;>simp_all
  subst hr2
  clear hr h0
  go_enter Tryz.func221,Tryz.ntmps221
  go_wp2
  all_goals go_ret
  all_goals exact⟨rfl,HB.out⟩
 ·have hne:¬s.toList=[]:=fun h=>by
   have h2:s.toList.length=s.size:=by rw[ByteArray.toList_eq]; simp
   rw[h] at h2; simp at h2; omega
  have hne2:s.toList.isEmpty=false:=by simpa using hne
  have hr2:r=((s[0].toNat:Int) != 0):=by
   have h1:WForm neg s↔s[0].toNat≠0:=⟨fun h=>(lead_head h0).1 h.2,fun h=>⟨fun h=>by omega,(lead_head h0).2 h⟩⟩
   rw[h1] at hr
   by_cases h:s[0].toNat=0
   ·rw[h] at hr ⊢; cases r; rfl; simp at hr
   ·have h3:((s[0].toNat:Int) != 0)=true:=by simpa using h
    rw[h3]; exact hr.2 h
  subst hr2
  clear hr hne
  go_enter Tryz.func221,Tryz.ntmps221
  go_wp2
  all_goals go_ret
  all_goals exact⟨rfl,HB.out⟩
theorem cmpI_zero{x y:Int}:Qfz x y=0↔x=y:=by unfold Qfz; split; omega; split<;>omega
theorem fracOk_parts{n1:Bool}{s1 s2:ByteArray}(h1:WForm n1 s1)(h2:WForm false s2){q:Rat} :
  Value.agg #[.bool n1,.string s1,.bool false,.string s2]=Qep q↔q.num=sgn n1 (Qeu s1)∧(q.den:Int)=sgn false (Qeu s2):=by
 constructor
 ·intro h
  obtain⟨a,b,c,d⟩:=Qcj h
  refine⟨?_,?_⟩
  ·rw[a,b,Qdk,sgn_self]
  ·rw[d,Qdk]; rfl
 ·rintro⟨a,b⟩
  have e1:=h1.enc
  have e2:=h2.enc
  rw[←a] at e1
  rw[←b] at e2
  unfold Qdy at e1 e2
  simp only[Value.agg.injEq,Array.mk.injEq,List.cons.injEq,Value.bool.injEq,Value.string.injEq,and_true] at e1 e2
  unfold Qep
  rw[←e1.1,←e1.2,e2.2]
  simp
open Classical in
noncomputable def formB(neg:Bool)(s:ByteArray):Bool:=decide (WForm neg s)
theorem formB_iff{neg:Bool}{s:ByteArray}:formB neg s=true↔WForm neg s:=by unfold formB; simp
def MayR(v:Value)(base:Nat)(u:Value)(w:World)(A:Nat→Prop):Prop:=(¬Qde v∧u=.pointer none)∨∃ q,v=Qep q∧Qde v∧RatM base q u w A
theorem ERat_any(n1 n2:Bool)(s1 s2:ByteArray)(h1:s1.size<274877906944)(h2:s2.size<274877906944)(w:World) :
  Calls Tryz.prog 148 #[.agg #[.bool n1,.string s1,.bool n2,.string s2]] w fun e w'=>∃ u,e=.returned u∧MayR (.agg #[.bool n1,.string s1,.bool n2,.string s2]) w.heap.size u w' NoA∧Below w.heap.size w w':=by
 have HF:=Lib.hid (fun(w':World) (h:¬Qde (.agg #[.bool n1,.string s1,.bool n2,.string s2]))=>show MayR (.agg #[.bool n1,.string s1,.bool n2,.string s2]) w.heap.size (.pointer none) w' NoA from .inl ⟨h,rfl⟩)
 have HAL:=Lib.hid (show Below w.heap.size w (w.alloc (.cells #[.bool n1,.string s1,.bool n2,.string s2] 26)) from br.alloc (Nat.le_refl _) _)
 have HP:=Lib.hid (fun(h:Qde (.agg #[.bool n1,.string s1,.bool n2,.string s2]))=>show WForm n1 s1∧WForm n2 s2∧s1.size≤1024∧s2.size≤1024∧n2=false∧0<s2.size by
  obtain⟨q,e,k1,k2⟩:=h
  obtain⟨rfl,rfl,rfl,rfl⟩:=Qcj e
  refine⟨(okW_strN _ (by omega)).1,?_,k1,k2,rfl,?_⟩
  ·have:=(okW_strN (q.den:Int) (by simp; omega)).1
   rw[show decide ((q.den:Int)<0)=false by simp] at this
   simpa using this
  ·rcases Nat.eq_zero_or_pos (Qcf q.den).size with h0|h0
   ·have:=(Qfc (Qet q.den)).2 h0
    rw[Qdk] at this
    exact absurd this q.den_nz
   ·exact h0)
 have HK:=Lib.hid (fun n s w=>formed_any n s (formB n s) formB_iff w)
 go_enter Tryz.func148,Tryz.ntmps148
 go_wp2_with fail
 refine(HK.out n1 s1 _).mono ?_
 rintro e w1 ⟨rfl,hb1⟩
 obtain⟨e0,e1,e2,e3,_⟩:=Qeq w _ _ _ _ _ hb1
 cases c1:formB n1 s1
 ·go_wp2
  go_ret
  exact⟨_,rfl,HF.out _ (fun hk=>by have:=formB_iff.2 (HP.out hk).1; rw[c1] at this; cases this),HAL.out.trans (hb1.mono (by simp))⟩
 ·go_wp2_with fail
  refine(HK.out n2 s2 _).mono ?_
  rintro e w2 ⟨rfl,hb2⟩
  have hb12:=hb1.trans (hb2.mono hb1.size)
  clear e0 e1 e2 e3
  obtain⟨e0,e1,e2,e3,_⟩:=Qeq w _ _ _ _ _ hb12
  cases c2:formB n2 s2
  ·go_wp2
   go_ret
   exact⟨_,rfl,HF.out _ (fun hk=>by have:=formB_iff.2 (HP.out hk).2.1; rw[c2] at this; cases this),HAL.out.trans (hb12.mono (by simp))⟩
  ·cases n2
   ·rcases Nat.eq_zero_or_pos s2.size with h0|h0
    ·have h00:=size_nil h0
     subst h00
     go_wp2
     all_goals go_ret
     all_goals exact⟨_,rfl,HF.out _ (fun hk=>by have:=(HP.out hk).2.2.2.2.2; exact absurd this (by decide)),HAL.out.trans (hb12.mono (by simp))⟩
    ·have hne:s2.toList.isEmpty=false:=by
      have h2:s2.toList.length=s2.size:=by rw[ByteArray.toList_eq]; simp
      cases h:s2.toList
      ·rw[h] at h2; simp at h2; omega
      ·rfl
     by_cases c3:(1024:Int)<(s1.size:Int)
     ·go_wp2
      all_goals go_ret
      all_goals exact⟨_,rfl,HF.out _ (fun hk=>by have:=(HP.out hk).2.2.1; omega),HAL.out.trans (hb12.mono (by simp))⟩
     ·by_cases c4:(1024:Int)<(s2.size:Int)
      ·go_wp2
       all_goals go_ret
       all_goals exact⟨_,rfl,HF.out _ (fun hk=>by have:=(HP.out hk).2.2.2.1; omega),HAL.out.trans (hb12.mono (by simp))⟩
      ·have hlt:w.heap.size<w2.heap.size:=by have:=hb12.size; simp at this; omega
       have HQ:=Lib.hid (And.intro (formB_iff.1 c1) (And.intro (formB_iff.1 c2) (And.intro h0 (HAL.out.trans (hb12.mono (by simp))))))
       clear c1 c2 hb1 hb2 hb12 HAL HK HP
       go_wp2_with fail
       obtain⟨zn,hzn⟩:∃ zn,zn=sgn n1 (Qeu s1):=⟨_,rfl⟩
       obtain⟨zd,hzd⟩:∃ zd,zd=sgn false (Qeu s2):=⟨_,rfl⟩
       have hN1:=fun w=>ewhole_any n1 s1 h1 w
       have hN2:=fun w=>ewhole_any false s2 h2 w
       rw[←hzn] at hN1
       rw[←hzd] at hN2
       have hd0:zd≠0:=fun h=>by
        have h3:Qeu s2=0:=by rw[hzd] at h; unfold sgn at h; simpa using h
        have:=(Qfc HQ.out.2.1.2).1 h3
        omega
       have l1:(Qac zn.natAbs).length≤1024:=by rw[hzn,Qch]; exact Nat.le_trans (wl_size rfl) (by omega)
       have l2:(Qac zd.natAbs).length≤1024:=by rw[hzd,Qch]; exact Nat.le_trans (wl_size rfl) (by omega)
       have HI:=Lib.hid (fun q=>fracOk_parts HQ.out.1 HQ.out.2.1 (q:=q))
       have HZ:=Lib.hid (And.intro hzn hzd)
       have hsz:s1.size≤1024∧s2.size≤1024:=by omega
       rw[←hzn,←hzd] at HI
       have HG:=Lib.hid (And.intro hN1 (And.intro hN2 (And.intro hd0 (And.intro l1 (And.intro l2 hsz)))))
       have hBw:=HQ.out.2.2.2
       clear hN1 hN2 hzn hzd hd0 l1 l2 hsz HQ
       refine Qas [(.lit,[]),(.lit,[]),(.val,[]),(.lit,[]),(.lit,[]),(.val,[])]
        (Qeg [(2,Qby zn),(5,Qby zd)]) (by kernel_rfl) ?_ ?_ (by simp) (by simp) (by kernel_rfl)
       ·exact Qbd (by simp[Qby.keeps])
       ·repeat (refine⟨_,fun f w1 h1=>by(have d0:=ct h1 hlt e0; have d1:=ct h1 hlt e1; have d2:=ct h1 hlt e2; have d3:=ct h1 hlt e3; go_simp; rfl),?_⟩)
        simp only[Act.put,nrA,nrB,nrC,Nat.reduceAdd]
        refine⟨fun f w1 A1 k1 hA hN hd K hK=>by
         go_simp
         refine(HG.out.1 w1).mono ?_
         rintro e w' ⟨v,rfl,hn⟩
         exact hK _ _ hn.1 (hn.2 A1 hA),?_⟩
        repeat (refine⟨_,fun f w1 h1=>by(have d0:=ct h1 hlt e0; have d1:=ct h1 hlt e1; have d2:=ct h1 hlt e2; have d3:=ct h1 hlt e3; go_simp; rfl),?_⟩)
        simp only[Act.put,nrA,nrB,nrC,Nat.reduceAdd]
        refine⟨fun f w1 A1 k1 hA hN hd K hK=>by
         go_simp
         refine(HG.out.2.1 w1).mono ?_
         rintro e w' ⟨v,rfl,hn⟩
         exact hK _ _ hn.1 (hn.2 A1 hA),?_⟩
        intro f w3 k3 hF
        have i1:Qby zn (f 2) w3 NoA:=hF.1.2
        have i2:Qby zd (f 5) w3 NoA:=hF.2
        clear hF
        simp only[Act.put,nrA,nrB,nrC]
        generalize f 2=vn at *
        generalize f 5=vd at *
        have hb3:Below w.heap.size w w3:=hBw.trans ((br.drew.trans k3).mono hBw.size)
        clear e0 e1 e2 e3 hlt hBw k3
        have hal:=(Below.refl w3.heap.size w3).alloc (Nat.le_refl _) zR
        have HS:=Lib.hid (Qdu w3.heap.size _ zn zd HG.out.2.2.1 vn vd NoA (w3.alloc zR) (heap_alloc_new w3 _) (by decide) Qcl (i1.below hal) (i2.below hal) (by have:=HG.out.2.2.2.1; omega) (by have:=HG.out.2.2.2.2.1; omega))
        have HJ:=Lib.hid (And.intro i1 (And.intro i2 hb3))
        clear i1 i2 hb3 hal
        go_wp2_with fail
        refine HS.out.mono ?_
        rintro e w4 ⟨rfl,hp4⟩
        obtain⟨q,hq⟩:∃ q,q=Rat.divInt zn zd:=⟨_,rfl⟩
        rw[←hq] at hp4
        have hr4:=(hp4.ratP (Qbo _)).noA
        have hb34:Below w3.heap.size w3 w4:=Qfn hp4.1
        have hql:RL q 1024:=by rw[hq]; exact Qhe HG.out.2.2.1 HG.out.2.2.2.1 HG.out.2.2.2.2.1
        have HI2:=Lib.hid (fun q' (h:Value.agg #[.bool n1,.string s1,.bool false,.string s2]=Qep q')=>show q'=q by rw[hq,HZ.out.1,HZ.out.2]; exact(encF_divInt h).symm)
        have HN:=Lib.hid (Num_any q _ NoA w4 hr4 (hql.mono (by decide)))
        have HR4:=Lib.hid (And.intro hr4 (And.intro hb34 hql))
        clear HS hq hp4 hr4 hb34 hql
        go_wp2_with fail
        refine HN.out.mono ?_
        rintro e w5 ⟨v5,rfl,hn5⟩
        have HC:=Lib.hid (Cmp_any q.num zn v5 vn NoA w5 (hn5.2 NoA (Qbo _)) ((HJ.out.1.below HR4.out.2.1).below hn5.1) (by have:=HR4.out.2.2.1; omega) (by have:=HG.out.2.2.2.1; omega))
        go_wp2_with fail
        refine HC.out.mono ?_
        rintro e w6 ⟨rfl,hb6⟩
        have hb46:Below w4.heap.size w4 w6:=hn5.1.trans (hb6.mono hn5.1.size)
        clear HN HC hn5 hb6
        by_cases c5:Qfz q.num zn=0
        ·have HD:=Lib.hid (Denom_any q _ NoA w6 (HR4.out.1.below hb46) (HR4.out.2.2.mono (by decide)))
         rw[c5]
         go_wp2_with fail
         refine HD.out.mono ?_
         rintro e w7 ⟨v7,rfl,hn7⟩
         have hb47:=hb46.trans (hn7.1.mono hb46.size)
         have HC:=Lib.hid (Cmp_any q.den zd v7 vd NoA w7 (hn7.2 NoA (Qbo _)) ((HJ.out.2.1.below HR4.out.2.1).below hb47) (by have:=HR4.out.2.2.2; simp; omega) (by have:=HG.out.2.2.2.2.1; omega))
         go_wp2_with fail
         refine HC.out.mono ?_
         rintro e w8 ⟨rfl,hb8⟩
         have hb48:=hb47.trans (hb8.mono hb47.size)
         clear HD HC hn7 hb8 hb47
         by_cases c6:Qfz q.den zd=0
         ·rw[c6]
          go_wp2
          go_ret
          have he:=(HI.out q).2 ⟨cmpI_zero.1 c5,cmpI_zero.1 c6⟩
          obtain⟨_,a,_,b⟩:=Qcj he
          refine⟨_,rfl,.inr ⟨q,he,⟨q,he,?_,?_⟩,w3.heap.size,rfl,HJ.out.2.2.size,HR4.out.1.below hb48⟩,HJ.out.2.2.trans ((HR4.out.2.1.trans (hb48.mono HR4.out.2.1.size)).mono HJ.out.2.2.size)⟩
          ·rw[←a]; exact HG.out.2.2.2.2.2.1
          ·rw[←b]; exact HG.out.2.2.2.2.2.2
         ·have hc6:(Qfz q.den zd != 0)=true:=by simpa using c6
          go_wp2
          all_goals go_ret
          all_goals exact⟨_,rfl,HF.out _ (fun hk=>by
           obtain⟨q',hq',_⟩:=hk
           have:=HI2.out q' hq'
           subst this
           exact c6 (cmpI_zero.2 ((HI.out q').1 hq').2)),HJ.out.2.2.trans ((HR4.out.2.1.trans (hb48.mono HR4.out.2.1.size)).mono HJ.out.2.2.size)⟩
        ·have hc5:(Qfz q.num zn != 0)=true:=by simpa using c5
         go_wp2
         all_goals go_ret
         all_goals exact⟨_,rfl,HF.out _ (fun hk=>by
          obtain⟨q',hq',_⟩:=hk
          have:=HI2.out q' hq'
          subst this
          exact c5 (cmpI_zero.2 ((HI.out q').1 hq').1)),HJ.out.2.2.trans ((HR4.out.2.1.trans (hb46.mono HR4.out.2.1.size)).mono HJ.out.2.2.size)⟩
   ·go_wp2
    all_goals go_ret
    all_goals exact⟨_,rfl,HF.out _ (fun hk=>by have:=(HP.out hk).2.2.2.2.1; cases this),HAL.out.trans (hb12.mono (by simp))⟩
abbrev Un(A0 A:Nat→Prop):Nat→Prop:=fun b=>A b∨A0 b
theorem Qdz{A0 A:Nat→Prop}{w:World}(h0:Rcv A0 w)(h:Rcv A w):Rcv (Un A0 A) w:=fun b hb=>hb.elim (h b) (h0 b)
def Qbe(A0:Nat→Prop)(R:Qck):Qck:=fun v w A=>R v w (Un A0 A)
theorem Qbe.keeps{A0:Nat→Prop}{R:Qck}(h:R.Keeps):(Qbe A0 R).Keeps:=by
 intro v w w' A A' hs hk hR
 refine h v w w' _ _ hs (fun b hb hn=>?_) hR
 obtain⟨k1,k2⟩:=hk b hb (fun h=>hn (.inl h))
 exact⟨k1,fun h=>h.elim k2 (fun h=>hn (.inr h))⟩
theorem Qbe.start{A0:Nat→Prop}{R:Qck}(h:R.Keeps){v:Value}{w:World}(hR:R v w A0):Qbe A0 R v w NoA :=
 h v w w A0 _ (Nat.le_refl _) (fun b _ hn=>⟨rfl,fun h=>h.elim (fun h=>h.elim) hn⟩) hR
theorem Qbe.done{A0:Nat→Prop}{R:Qck}(h:R.Keeps){v:Value}{w:World}(hR:Qbe A0 R v w NoA):R v w A0 :=
 h v w w _ A0 (Nat.le_refl _) (fun b _ hn=>⟨rfl,fun h=>hn (.inr h)⟩) hR
theorem PutR.ratU{m base:Nat}{q:Rat}{w w':World}(h:PutR m q w w'){A0 A:Nat→Prop}(hA0:Rcv A0 w)(hA:Rcv A w)(hm:base≤m)(h0:∀ b,A0 b→b<base):Qbe A0 (Qbl q) (.pointer (some ⟨m,0,none⟩)) w' (fun b=>A b∧b≠m) :=
 (h.ratP (Qdz hA0 hA)).wider fun b hb=>hb.elim (fun h=>⟨.inl h.1,h.2⟩) (fun h=>⟨.inr h,fun e=>by have:=h0 b h; omega⟩)
def Qdw(q:Rat):Qck:=fun v w A=>(v=.pointer none∧q=0)∨Qbl q v w A
theorem Qdw.keeps(q:Rat):(Qdw q).Keeps:=fun v w w' A A' hs hk h=>h.imp id (Qbl.keeps q v w w' A A' hs hk)
theorem Qdw.below{q:Rat}{v:Value}{w w':World}{A:Nat→Prop}(h:Qdw q v w A)(hb:Below w.heap.size w w'):Qdw q v w' A:=Qck.Keeps.below (Qdw.keeps q) hb h
theorem Qbl.zero{m:Nat}{w:World}{A:Nat→Prop}(h:w.heap[m]?=some zR)(hA:¬A m):Qbl 0 (.pointer (some ⟨m,0,none⟩)) w A:=by
 have hlt:=(Array.getElem?_eq_some_iff.1 h).1
 have hn:WSlA A w (.slice none 0 0) (Qac 0):=by rw[Qbc]; exact⟨none,0,rfl,Nat.le_refl _,fun h=>absurd rfl h⟩
 refine⟨m,rfl,⟨m,0,.slice none 0 0,rfl,hlt,hA,by simp[World.cell?,h],by simp[World.cell?,h],hn⟩,.inr ⟨rfl,m,2,.slice none 0 0,rfl,hlt,hA,by simp[World.cell?,h],by simp[World.cell?,h],hn⟩⟩
theorem Qdo(q:Rat)(v:Value)(A:Nat→Prop)(w:World)(hx:Qdw q v w A)(hA:Rcv A w) :
  Calls Tryz.prog 209 #[v] w fun e w'=>∃ u,e=.returned u∧Below w.heap.size w w'∧Qbl q u w' A:=by
 rcases hx with⟨rfl,rfl⟩|hx
 ·have hb:=(Below.refl w.heap.size w).alloc (Nat.le_refl _) zR
  go_enter Tryz.func209,Tryz.ntmps209
  go_wp2
  go_ret
  exact⟨_,rfl,hb,Qbl.zero (heap_alloc_new w _) (fun h=>by have:=hA.lt h; omega)⟩
 ·obtain⟨b,rfl⟩:=hx.shape
  have HX:=Lib.hid hx
  clear hx
  go_enter Tryz.func209,Tryz.ntmps209
  go_wp2
  go_ret
  exact⟨_,rfl,Below.refl _ _,HX.out⟩
theorem Qga(x y:Rat)(vx vy:Value)(A:Nat→Prop)(w:World)(hx:Qdw x vx w A)(hy:Qdw y vy w A)(hA:Rcv A w)(k l:Nat)(hlx:RL x k)(hly:RL y l)(hkl:k+l<137438953472) :
  Calls Tryz.prog 178 #[vx,vy] w fun e w'=>∃ u,e=.returned u∧Below w.heap.size w w'∧Qbl (x*y) u w' A:=by
 have hal:=(Below.refl w.heap.size w).alloc (Nat.le_refl _) zR
 have HA:=Lib.hid (And.intro hA hal)
 have H1:=Lib.hid (Qdo x vx A (w.alloc zR) (hx.below hal) (hA.below hal))
 have HY:=Lib.hid hy
 clear hx hy hal hA
 go_enter Tryz.func178,Tryz.ntmps178
 go_wp2_with fail
 refine H1.out.mono ?_
 rintro e w1 ⟨u1,rfl,hb1,hr1⟩
 have hb01:Below w.heap.size w w1:=HA.out.2.trans (hb1.mono (by simp))
 have H2:=Lib.hid (Qdo y vy A w1 (HY.out.below hb01) (HA.out.1.below hb01))
 have HR1:=Lib.hid hr1
 clear hr1
 go_wp2_with fail
 refine H2.out.mono ?_
 rintro e w2 ⟨u2,rfl,hb2,hr2⟩
 have hm:w2.heap[w.heap.size]?=some zR:=(hb2.block _ (by have:=hb1.size; simp at this; omega)).trans ((hb1.block _ (by simp)).trans (heap_alloc_new w _))
 have HM:=Lib.hid (RMul_any w.heap.size _ x y u1 u2 A w2 hm (by decide) Qcl (HR1.out.below hb2) hr2 k l hlx hly hkl)
 have HB:=Lib.hid (hb01.trans (hb2.mono hb01.size))
 clear H1 H2 HR1 hb1 hb2 hb01 hr2 hm
 go_wp2_with fail
 refine HM.out.mono ?_
 rintro e w3 ⟨rfl,hp⟩
 have hn:=hp.newAt HB.out (Nat.le_refl _)
 have HN:=Lib.hid hn
 clear hn hp HM
 go_wp2
 go_ret
 exact⟨_,rfl,HN.out.1,HN.out.2 A HA.out.1⟩
def Qgr(a b:Rat):Qck:=fun v w A=>∃ u1 u2,v=.agg #[u1,u2]∧Qdw a u1 w A∧Qdw b u2 w A
theorem Qgr.keeps(a b:Rat):(Qgr a b).Keeps:=fun v w w' A A' hs hk ⟨u1,u2,h1,h2,h3⟩=>⟨u1,u2,h1,Qdw.keeps a _ _ _ _ _ hs hk h2,Qdw.keeps b _ _ _ _ _ hs hk h3⟩
theorem Qgr.below{a b:Rat}{v:Value}{w w':World}{A:Nat→Prop}(h:Qgr a b v w A)(hb:Below w.heap.size w w'):Qgr a b v w' A:=Qck.Keeps.below (Qgr.keeps a b) hb h
abbrev Mo(A:Nat→Prop)(n:Nat):Nat→Prop:=fun b=>A b∨b=n
theorem Qgy(R:Qck)(hR:R.Keeps){n o:Nat}{A:Nat→Prop}{x y:Value}{w:World}(h:R x w (Mo A n)):R x (w.setCell ⟨n,o,none⟩ y) (Mo A n) :=
 hR _ _ _ _ _ (by simp[World.setCell]) (fun b _ hn=>⟨Below.heap_setCell _ _ _ _ (fun e=>hn (.inr e)),hn⟩) h
theorem more_less(R:Qck)(hR:R.Keeps){n:Nat}{A:Nat→Prop}{x:Value}{w:World}(h:R x w (Mo A n)):R x w A :=
 hR _ _ _ _ _ (Nat.le_refl _) (fun b _ hn=>⟨rfl,fun h=>hn (.inl h)⟩) h
theorem put_num{a b:Rat}{v1 v2:Value}{w w1:World}{A:Nat→Prop}{n:Nat}(hb:Below w.heap.size w w1)(h1:Qbl a v1 w1 (Mo A n))(h2:Qbl b v2 w1 (Mo A n))(hn:w.heap.size≤n) :
  ∃ u,Ending.returned (.agg #[v1,v2])=.returned u∧Below w.heap.size w ((w1.setCell ⟨n,0,none⟩ v1).setCell ⟨n,1,none⟩ v2)∧Qgr a b u ((w1.setCell ⟨n,0,none⟩ v1).setCell ⟨n,1,none⟩ v2) A:=by
 refine⟨_,rfl,(hb.setCell (p:=⟨n,0,none⟩) hn _).setCell (p:=⟨n,1,none⟩) hn _,v1,v2,rfl,.inr ?_,.inr ?_⟩
 ·exact more_less _ (Qbl.keeps a) (Qgy _ (Qbl.keeps a) (Qgy _ (Qbl.keeps a) h1))
 ·exact more_less _ (Qbl.keeps b) (Qgy _ (Qbl.keeps b) (Qgy _ (Qbl.keeps b) h2))
theorem Qcx{R:Qck}(hR:R.Keeps){n:Nat}{A:Nat→Prop}{x:Value}{w w1:World}(hb:Below w.heap.size w w1)(hn:w.heap.size≤n)(h:R x w A):Qbe (Mo A n) R x w1 NoA :=
 hR _ _ _ _ _ hb.size (fun b hlt hna=>⟨hb.block b hlt,fun h=>h.elim (fun h=>h) (fun h=>h.elim hna (fun e=>by omega))⟩) h
theorem noW_num(v1 v2:Value)(h1:∃ p,v1=.pointer p)(h2:∃ p,v2=.pointer p)(T:TypeId):NoW (.cells #[v1,v2] T (0,0)):=by
 obtain⟨p,rfl⟩:=h1
 obtain⟨q,rfl⟩:=h2
 intro cs T fr e i k x
 cases e
 rcases i with _|_|i<;>simp
theorem box_one(w:World)(u1 u2:Value)(A:Nat→Prop)(hA:Rcv A w) :
  ∃ W,Hid (W=(w.alloc (.cells #[u1,u2] 116)).alloc (.cells #[.pointer none,.pointer none] 116)∧Below w.heap.size w W∧Rcv (Mo A (w.heap.size+1)) W∧∀ w1,Below W.heap.size W w1→w1.cell? ⟨w.heap.size+1,0,none⟩=some (.pointer none)∧w1.cell? ⟨w.heap.size+1,1,none⟩=some (.pointer none)∧w1.frozen? ⟨w.heap.size+1,0,none⟩=false∧w1.frozen? ⟨w.heap.size+1,1,none⟩=false)∧w.heap.size<W.heap.size∧W.cell? ⟨w.heap.size,0,none⟩=some u1∧W.cell? ⟨w.heap.size,1,none⟩=some u2:=by
 have hb1:=(Below.refl (w.alloc (.cells #[u1,u2] 116)).heap.size (w.alloc (.cells #[u1,u2] 116))).alloc (Nat.le_refl _) (.cells #[.pointer none,.pointer none] 116)
 have hb:Below w.heap.size w ((w.alloc (.cells #[u1,u2] 116)).alloc (.cells #[.pointer none,.pointer none] 116)):=(br.alloc (Nat.le_refl _) _).alloc (by simp) _
 obtain⟨e0,e1,_⟩:=Qgh w u1 u2 116 hb1
 have hz:(w.alloc (.cells #[u1,u2] 116)).heap.size=w.heap.size+1:=by simp
 have hn:=heap_alloc_new (w.alloc (.cells #[u1,u2] 116)) (.cells #[.pointer none,.pointer none] 116 (0,0))
 rw[hz] at hn
 refine⟨_,Lib.hid ⟨rfl,hb,fun b h=>h.elim (fun h=>(hA.below hb) b h) (fun h=>by subst h; exact⟨_,hn,noW_num _ _ ⟨_,rfl⟩ ⟨_,rfl⟩ _⟩),fun w1 h=>?_⟩,by simp; omega,e0,e1⟩
 have:=Qgh (w.alloc (.cells #[u1,u2] 116)) (.pointer none) (.pointer none) 116 h
 rw[hz] at this
 exact this
theorem NScale_any(a b s:Rat)(v vs:Value)(A:Nat→Prop)(w:World)(hv:Qgr a b v w A)(hs:Qdw s vs w A)(hA:Rcv A w)(k l:Nat)(hla:RL a k)(hlb:RL b k)(hls:RL s l)(hkl:k+l<137438953472) :
  Calls Tryz.prog 80 #[v,vs] w fun e w'=>∃ u,e=.returned u∧Below w.heap.size w w'∧Qgr (a*s) (b*s) u w' A:=by
 obtain⟨u1,u2,rfl,h1,h2⟩:=hv
 obtain⟨W,HV,hs2,e0,e1⟩:=box_one w u1 u2 A hA
 have h1:=Qcx (Qdw.keeps a) (n:=w.heap.size+1) HV.out.2.1 (by omega) h1
 have h2:=Qcx (Qdw.keeps b) (n:=w.heap.size+1) HV.out.2.1 (by omega) h2
 have hs:=Qcx (Qdw.keeps s) (n:=w.heap.size+1) HV.out.2.1 (by omega) hs
 clear hA
 go_enter Tryz.func80,Tryz.ntmps80
 go_wp2_with fail
 rw[←HV.out.1]
 refine Qas [(.lit,[]),(.lit,[]),(.lit,[]),(.val,[]),(.lit,[]),(.lit,[]),(.lit,[]),(.val,[])]
  (Qeg [(3,Qbe (Mo A (w.heap.size+1)) (Qbl (a*s))),(7,Qbe (Mo A (w.heap.size+1)) (Qbl (b*s)))]) (by kernel_rfl) ?_ ?_ (by simp) (by simp) (by kernel_rfl)
 ·exact Qbd (by simp only[List.mem_cons,List.not_mem_nil,or_false]; rintro p (rfl|rfl)<;>exact Qbe.keeps (Qbl.keeps _))
 ·repeat (refine⟨_,fun f w1 h1=>by(have d0:=ct h1 hs2 e0; have d1:=ct h1 hs2 e1; go_simp; rfl),?_⟩)
  simp only[Act.put,nrA,nrB,nrC,Nat.reduceAdd]
  refine⟨fun f w1 A1 k1 hA hN hd K hK=>by
   go_simp
   refine(Qga a s u1 vs (Un (Mo A (w.heap.size+1)) A1) w1 (Qcw (Qbe.keeps (Qdw.keeps _)) h1 k1 hN) (Qcw (Qbe.keeps (Qdw.keeps _)) hs k1 hN) (Qdz (HV.out.2.2.1.below (br.drew.trans k1)) hA) k l hla hls hkl).mono ?_
   rintro e w' ⟨v,rfl,hb,hr⟩
   exact hK _ _ hb hr,?_⟩
  repeat (refine⟨_,fun f w1 h1=>by(have d0:=ct h1 hs2 e0; have d1:=ct h1 hs2 e1; go_simp; rfl),?_⟩)
  simp only[Act.put,nrA,nrB,nrC,Nat.reduceAdd]
  refine⟨fun f w1 A1 k1 hA hN hd K hK=>by
   go_simp
   refine(Qga b s u2 vs (Un (Mo A (w.heap.size+1)) A1) w1 (Qcw (Qbe.keeps (Qdw.keeps _)) h2 k1 hN) (Qcw (Qbe.keeps (Qdw.keeps _)) hs k1 hN) (Qdz (HV.out.2.2.1.below (br.drew.trans k1)) hA) k l hlb hls hkl).mono ?_
   rintro e w' ⟨v,rfl,hb,hr⟩
   exact hK _ _ hb hr,?_⟩
  intro f w1 k1 hF
  have i1:Qbl (a*s) (f 3) w1 (Mo A (w.heap.size+1)):=Qbe.done (Qbl.keeps _) hF.1.2
  have i2:Qbl (b*s) (f 7) w1 (Mo A (w.heap.size+1)):=Qbe.done (Qbl.keeps _) hF.2
  clear hF
  simp only[Act.put,nrA,nrB,nrC]
  generalize f 3=v1 at *
  generalize f 7=v2 at *
  have hb1:Below W.heap.size W w1:=br.drew.trans k1
  obtain⟨c0,c1,f0,f1⟩:=HV.out.2.2.2 w1 hb1
  have hbw:=HV.out.2.1.trans (hb1.mono HV.out.2.1.size)
  have HE:=Lib.hid (And.intro i1 (And.intro i2 hbw))
  obtain⟨m1,rfl⟩:=i1.shape
  obtain⟨m2,rfl⟩:=i2.shape
  clear e0 e1 h1 h2 hs i1 i2 hbw hb1 k1
  go_wp2_with fail
  refine bodyPost_ret (v:=.agg #[.pointer (some ⟨m1,0,none⟩),.pointer (some ⟨m2,0,none⟩)]) (by simp[results,Tryz.results80,go_sem,c0,c1]) rfl ?_
  exact put_num HE.out.2.2 HE.out.1 HE.out.2.1 (by omega)
end Go.Proofs.YtmimficdpfmfgaaGreat
