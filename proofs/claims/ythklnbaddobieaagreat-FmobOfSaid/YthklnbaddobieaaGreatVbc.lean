/- Laws for the walk. -/
import Derived.Test.YthklnbaddobieaaGreatVbb
set_option linter.unusedVariables false
set_option maxHeartbeats 4000000
namespace Go.Proofs.YthklnbaddobieaaGreat
open Go.RowKit Tr
set_option maxRecDepth 100000 in
theorem formed_any(neg:Bool)(s:ByteArray)(r:Bool)(hr:r=true↔WForm neg s)(w:World) :
  Calls Tryz.prog 221 #[.agg #[.bool neg,.string s]] w fun e w'=>e=.returned (.bool r)∧Below w.heap.size w w':=by
 have HB:=Lib.hid (show Below w.heap.size w (w.alloc (.cells #[.bool neg,.string s] 23)) from br.alloc (Nat.le_refl _) _)
 rcases Nat.eq_zero_or_pos s.size with h0|h0
 ·have:=size_nil h0
  subst this
  have hr2:r=!neg:=by
   have:WForm neg ⟨#[]⟩↔neg=false:=⟨fun h=>h.1 rfl,fun h=>⟨fun _=>h,noLead_nil⟩⟩
   rw[this] at hr
   cases neg<;>cases r<;>simp_all
  subst hr2
  clear hr h0
  go_enter Tryz.func221,Tryz.ntmps221
  go_wp2
  all_goals go_ret
  all_goals exact⟨rfl,HB.out⟩
 ·have hne:¬s.toList=[]:=fun h=>by
   have h2:s.toList.length=s.size:=by rw[ByteArray.toList_eq]; simp
   rw[h] at h2; simp at h2; omega
  have hne2:s.toList.isEmpty=false:=by simpa using hne
  have hr2:r=((s[0].toNat:Int) != 0):=by
   have h1:WForm neg s↔s[0].toNat≠0:=⟨fun h=>(lead_head h0).1 h.2,fun h=>⟨fun h=>by omega,(lead_head h0).2 h⟩⟩
   rw[h1] at hr
   by_cases h:s[0].toNat=0
   ·rw[h] at hr ⊢; cases r; rfl; simp at hr
   ·have h3:((s[0].toNat:Int) != 0)=true:=by simpa using h
    rw[h3]; exact hr.2 h
  subst hr2
  clear hr hne
  go_enter Tryz.func221,Tryz.ntmps221
  go_wp2
  all_goals go_ret
  all_goals exact⟨rfl,HB.out⟩
theorem cmpI_zero{x y:Int}:cmpI x y=0↔x=y:=by unfold cmpI; split; omega; split<;>omega
theorem fracOk_parts{n1:Bool}{s1 s2:ByteArray}(h1:WForm n1 s1)(h2:WForm false s2){q:Rat} :
  Value.agg #[.bool n1,.string s1,.bool false,.string s2]=encF q↔q.num=sgn n1 (numS s1)∧(q.den:Int)=sgn false (numS s2):=by
 constructor
 ·intro h
  obtain⟨a,b,c,d⟩:=encF_parts h
  refine⟨?_,?_⟩
  ·rw[a,b,numS_strN,sgn_self]
  ·rw[d,numS_strN]; rfl
 ·rintro⟨a,b⟩
  have e1:=h1.enc
  have e2:=h2.enc
  rw[←a] at e1
  rw[←b] at e2
  unfold encZ at e1 e2
  simp only[Value.agg.injEq,Array.mk.injEq,List.cons.injEq,Value.bool.injEq,Value.string.injEq,and_true] at e1 e2
  unfold encF
  rw[←e1.1,←e1.2,e2.2]
  simp
open Classical in
noncomputable def formB(neg:Bool)(s:ByteArray):Bool:=decide (WForm neg s)
theorem formB_iff{neg:Bool}{s:ByteArray}:formB neg s=true↔WForm neg s:=by unfold formB; simp
def MayR(v:Value)(base:Nat)(u:Value)(w:World)(A:Nat→Prop):Prop:=(¬FracOk v∧u=.pointer none)∨∃ q,v=encF q∧FracOk v∧RatM base q u w A
set_option maxRecDepth 100000 in
theorem ERat_any(n1 n2:Bool)(s1 s2:ByteArray)(h1:s1.size<274877906944)(h2:s2.size<274877906944)(w:World) :
  Calls Tryz.prog 192 #[.agg #[.bool n1,.string s1,.bool n2,.string s2]] w fun e w'=>∃ u,e=.returned u∧MayR (.agg #[.bool n1,.string s1,.bool n2,.string s2]) w.heap.size u w' NoA∧Below w.heap.size w w':=by
 have HF:=Lib.hid (fun(w':World) (h:¬FracOk (.agg #[.bool n1,.string s1,.bool n2,.string s2]))=>show MayR (.agg #[.bool n1,.string s1,.bool n2,.string s2]) w.heap.size (.pointer none) w' NoA from .inl ⟨h,rfl⟩)
 have HAL:=Lib.hid (show Below w.heap.size w (w.alloc (.cells #[.bool n1,.string s1,.bool n2,.string s2] 25)) from br.alloc (Nat.le_refl _) _)
 have HP:=Lib.hid (fun(h:FracOk (.agg #[.bool n1,.string s1,.bool n2,.string s2]))=>show WForm n1 s1∧WForm n2 s2∧s1.size≤1024∧s2.size≤1024∧n2=false∧0<s2.size by
  obtain⟨q,e,k1,k2⟩:=h
  obtain⟨rfl,rfl,rfl,rfl⟩:=encF_parts e
  refine⟨(okW_strN _ (by omega)).1,?_,k1,k2,rfl,?_⟩
  ·have:=(okW_strN (q.den:Int) (by simp; omega)).1
   rw[show decide ((q.den:Int)<0)=false by simp] at this
   simpa using this
  ·rcases Nat.eq_zero_or_pos (strN q.den).size with h0|h0
   ·have:=(numS_zero (noLead_strN q.den)).2 h0
    rw[numS_strN] at this
    exact absurd this q.den_nz
   ·exact h0)
 have HK:=Lib.hid (fun n s w=>formed_any n s (formB n s) formB_iff w)
 go_enter Tryz.func192,Tryz.ntmps192
 go_wp2_with fail
 refine(HK.out n1 s1 _).mono ?_
 rintro e w1 ⟨rfl,hb1⟩
 obtain⟨e0,e1,e2,e3,_⟩:=new_four w _ _ _ _ _ hb1
 cases c1:formB n1 s1
 ·go_wp2
  go_ret
  exact⟨_,rfl,HF.out _ (fun hk=>by have:=formB_iff.2 (HP.out hk).1; rw[c1] at this; cases this),HAL.out.trans (hb1.mono (by simp))⟩
 ·go_wp2_with fail
  refine(HK.out n2 s2 _).mono ?_
  rintro e w2 ⟨rfl,hb2⟩
  have hb12:=hb1.trans (hb2.mono hb1.size)
  clear e0 e1 e2 e3
  obtain⟨e0,e1,e2,e3,_⟩:=new_four w _ _ _ _ _ hb12
  cases c2:formB n2 s2
  ·go_wp2
   go_ret
   exact⟨_,rfl,HF.out _ (fun hk=>by have:=formB_iff.2 (HP.out hk).2.1; rw[c2] at this; cases this),HAL.out.trans (hb12.mono (by simp))⟩
  ·cases n2
   ·rcases Nat.eq_zero_or_pos s2.size with h0|h0
    ·have h00:=size_nil h0
     subst h00
     go_wp2
     all_goals go_ret
     all_goals exact⟨_,rfl,HF.out _ (fun hk=>by have:=(HP.out hk).2.2.2.2.2; exact absurd this (by decide)),HAL.out.trans (hb12.mono (by simp))⟩
    ·have hne:s2.toList.isEmpty=false:=by
      have h2:s2.toList.length=s2.size:=by rw[ByteArray.toList_eq]; simp
      cases h:s2.toList
      ·rw[h] at h2; simp at h2; omega
      ·rfl
     by_cases c3:(1024:Int)<(s1.size:Int)
     ·go_wp2
      all_goals go_ret
      all_goals exact⟨_,rfl,HF.out _ (fun hk=>by have:=(HP.out hk).2.2.1; omega),HAL.out.trans (hb12.mono (by simp))⟩
     ·by_cases c4:(1024:Int)<(s2.size:Int)
      ·go_wp2
       all_goals go_ret
       all_goals exact⟨_,rfl,HF.out _ (fun hk=>by have:=(HP.out hk).2.2.2.1; omega),HAL.out.trans (hb12.mono (by simp))⟩
      ·have hlt:w.heap.size<w2.heap.size:=by have:=hb12.size; simp at this; omega
       have HQ:=Lib.hid (And.intro (formB_iff.1 c1) (And.intro (formB_iff.1 c2) (And.intro h0 (HAL.out.trans (hb12.mono (by simp))))))
       clear c1 c2 hb1 hb2 hb12 HAL HK HP
       go_wp2_with fail
       obtain⟨zn,hzn⟩:∃ zn,zn=sgn n1 (numS s1):=⟨_,rfl⟩
       obtain⟨zd,hzd⟩:∃ zd,zd=sgn false (numS s2):=⟨_,rfl⟩
       have hN1:=fun w=>ewhole_any n1 s1 h1 w
       have hN2:=fun w=>ewhole_any false s2 h2 w
       rw[←hzn] at hN1
       rw[←hzd] at hN2
       have hd0:zd≠0:=fun h=>by
        have h3:numS s2=0:=by rw[hzd] at h; unfold sgn at h; simpa using h
        have:=(numS_zero HQ.out.2.1.2).1 h3
        omega
       have l1:(words zn.natAbs).length≤1024:=by rw[hzn,natAbs_sgn]; exact Nat.le_trans (wl_size rfl) (by omega)
       have l2:(words zd.natAbs).length≤1024:=by rw[hzd,natAbs_sgn]; exact Nat.le_trans (wl_size rfl) (by omega)
       have HI:=Lib.hid (fun q=>fracOk_parts HQ.out.1 HQ.out.2.1 (q:=q))
       have HZ:=Lib.hid (And.intro hzn hzd)
       have hsz:s1.size≤1024∧s2.size≤1024:=by omega
       rw[←hzn,←hzd] at HI
       have HG:=Lib.hid (And.intro hN1 (And.intro hN2 (And.intro hd0 (And.intro l1 (And.intro l2 hsz)))))
       have hBw:=HQ.out.2.2.2
       clear hN1 hN2 hzn hzd hd0 l1 l2 hsz HQ
       refine wp_region_inv [(.lit,[]),(.lit,[]),(.val,[]),(.lit,[]),(.lit,[]),(.val,[])]
        (pickF [(2,IntP zn),(5,IntP zd)]) (by kernel_rfl) ?_ ?_ (by simp) (by simp) (by kernel_rfl)
       ·exact keeps_pick (by simp[IntP.keeps])
       ·repeat (refine⟨_,fun f w1 h1=>by(have d0:=ct h1 hlt e0; have d1:=ct h1 hlt e1; have d2:=ct h1 hlt e2; have d3:=ct h1 hlt e3; go_simp; rfl),?_⟩)
        simp only[Act.put,nrA,nrB,nrC,Nat.reduceAdd]
        refine⟨fun f w1 A1 k1 hA hN hd K hK=>by
         go_simp
         refine(HG.out.1 w1).mono ?_
         rintro e w' ⟨v,rfl,hn⟩
         exact hK _ _ hn.1 (hn.2 A1 hA),?_⟩
        repeat (refine⟨_,fun f w1 h1=>by(have d0:=ct h1 hlt e0; have d1:=ct h1 hlt e1; have d2:=ct h1 hlt e2; have d3:=ct h1 hlt e3; go_simp; rfl),?_⟩)
        simp only[Act.put,nrA,nrB,nrC,Nat.reduceAdd]
        refine⟨fun f w1 A1 k1 hA hN hd K hK=>by
         go_simp
         refine(HG.out.2.1 w1).mono ?_
         rintro e w' ⟨v,rfl,hn⟩
         exact hK _ _ hn.1 (hn.2 A1 hA),?_⟩
        intro f w3 k3 hF
        have i1:IntP zn (f 2) w3 NoA:=hF.1.2
        have i2:IntP zd (f 5) w3 NoA:=hF.2
        clear hF
        simp only[Act.put,nrA,nrB,nrC]
        generalize f 2=vn at *
        generalize f 5=vd at *
        have hb3:Below w.heap.size w w3:=hBw.trans ((br.drew.trans k3).mono hBw.size)
        clear e0 e1 e2 e3 hlt hBw k3
        have hal:=(Below.refl w3.heap.size w3).alloc (Nat.le_refl _) zR
        have HS:=Lib.hid (SetFrac_any w3.heap.size _ zn zd HG.out.2.2.1 vn vd NoA (w3.alloc zR) (heap_alloc_new w3 _) (by decide) noW_zRat (i1.below hal) (i2.below hal) (by have:=HG.out.2.2.2.1; omega) (by have:=HG.out.2.2.2.2.1; omega))
        have HJ:=Lib.hid (And.intro i1 (And.intro i2 hb3))
        clear i1 i2 hb3 hal
        go_wp2_with fail
        refine HS.out.mono ?_
        rintro e w4 ⟨rfl,hp4⟩
        obtain⟨q,hq⟩:∃ q,q=Rat.divInt zn zd:=⟨_,rfl⟩
        rw[←hq] at hp4
        have hr4:=(hp4.ratP (rcv_noA _)).noA
        have hb34:Below w3.heap.size w3 w4:=below_of_alloc hp4.1
        have hql:RL q 1024:=by rw[hq]; exact RL_divInt HG.out.2.2.1 HG.out.2.2.2.1 HG.out.2.2.2.2.1
        have HI2:=Lib.hid (fun q' (h:Value.agg #[.bool n1,.string s1,.bool false,.string s2]=encF q')=>show q'=q by rw[hq,HZ.out.1,HZ.out.2]; exact(encF_divInt h).symm)
        have HN:=Lib.hid (Num_any q _ NoA w4 hr4 (hql.mono (by decide)))
        have HR4:=Lib.hid (And.intro hr4 (And.intro hb34 hql))
        clear HS hq hp4 hr4 hb34 hql
        go_wp2_with fail
        refine HN.out.mono ?_
        rintro e w5 ⟨v5,rfl,hn5⟩
        have HC:=Lib.hid (Cmp_any q.num zn v5 vn NoA w5 (hn5.2 NoA (rcv_noA _)) ((HJ.out.1.below HR4.out.2.1).below hn5.1) (by have:=HR4.out.2.2.1; omega) (by have:=HG.out.2.2.2.1; omega))
        go_wp2_with fail
        refine HC.out.mono ?_
        rintro e w6 ⟨rfl,hb6⟩
        have hb46:Below w4.heap.size w4 w6:=hn5.1.trans (hb6.mono hn5.1.size)
        clear HN HC hn5 hb6
        by_cases c5:cmpI q.num zn=0
        ·have HD:=Lib.hid (Denom_any q _ NoA w6 (HR4.out.1.below hb46) (HR4.out.2.2.mono (by decide)))
         rw[c5]
         go_wp2_with fail
         refine HD.out.mono ?_
         rintro e w7 ⟨v7,rfl,hn7⟩
         have hb47:=hb46.trans (hn7.1.mono hb46.size)
         have HC:=Lib.hid (Cmp_any q.den zd v7 vd NoA w7 (hn7.2 NoA (rcv_noA _)) ((HJ.out.2.1.below HR4.out.2.1).below hb47) (by have:=HR4.out.2.2.2; simp; omega) (by have:=HG.out.2.2.2.2.1; omega))
         go_wp2_with fail
         refine HC.out.mono ?_
         rintro e w8 ⟨rfl,hb8⟩
         have hb48:=hb47.trans (hb8.mono hb47.size)
         clear HD HC hn7 hb8 hb47
         by_cases c6:cmpI q.den zd=0
         ·rw[c6]
          go_wp2
          go_ret
          have he:=(HI.out q).2 ⟨cmpI_zero.1 c5,cmpI_zero.1 c6⟩
          obtain⟨_,a,_,b⟩:=encF_parts he
          refine⟨_,rfl,.inr ⟨q,he,⟨q,he,?_,?_⟩,w3.heap.size,rfl,HJ.out.2.2.size,HR4.out.1.below hb48⟩,HJ.out.2.2.trans ((HR4.out.2.1.trans (hb48.mono HR4.out.2.1.size)).mono HJ.out.2.2.size)⟩
          ·rw[←a]; exact HG.out.2.2.2.2.2.1
          ·rw[←b]; exact HG.out.2.2.2.2.2.2
         ·have hc6:(cmpI q.den zd != 0)=true:=by simpa using c6
          go_wp2
          all_goals go_ret
          all_goals exact⟨_,rfl,HF.out _ (fun hk=>by
           obtain⟨q',hq',_⟩:=hk
           have:=HI2.out q' hq'
           subst this
           exact c6 (cmpI_zero.2 ((HI.out q').1 hq').2)),HJ.out.2.2.trans ((HR4.out.2.1.trans (hb48.mono HR4.out.2.1.size)).mono HJ.out.2.2.size)⟩
        ·have hc5:(cmpI q.num zn != 0)=true:=by simpa using c5
         go_wp2
         all_goals go_ret
         all_goals exact⟨_,rfl,HF.out _ (fun hk=>by
          obtain⟨q',hq',_⟩:=hk
          have:=HI2.out q' hq'
          subst this
          exact c5 (cmpI_zero.2 ((HI.out q').1 hq').1)),HJ.out.2.2.trans ((HR4.out.2.1.trans (hb46.mono HR4.out.2.1.size)).mono HJ.out.2.2.size)⟩
   ·go_wp2
    all_goals go_ret
    all_goals exact⟨_,rfl,HF.out _ (fun hk=>by have:=(HP.out hk).2.2.2.2.1; cases this),HAL.out.trans (hb12.mono (by simp))⟩
end Go.Proofs.YthklnbaddobieaaGreat
namespace Go.Proofs.YthklnbaddobieaaGreat
open Go.RowKit Tr
abbrev Un(A0 A:Nat→Prop):Nat→Prop:=fun b=>A b∨A0 b
theorem rcv_un{A0 A:Nat→Prop}{w:World}(h0:Rcv A0 w)(h:Rcv A w):Rcv (Un A0 A) w:=fun b hb=>hb.elim (h b) (h0 b)
def FactU(A0:Nat→Prop)(R:Fact):Fact:=fun v w A=>R v w (Un A0 A)
theorem FactU.keeps{A0:Nat→Prop}{R:Fact}(h:R.Keeps):(FactU A0 R).Keeps:=by
 intro v w w' A A' hs hk hR
 refine h v w w' _ _ hs (fun b hb hn=>?_) hR
 obtain⟨k1,k2⟩:=hk b hb (fun h=>hn (.inl h))
 exact⟨k1,fun h=>h.elim k2 (fun h=>hn (.inr h))⟩
theorem FactU.start{A0:Nat→Prop}{R:Fact}(h:R.Keeps){v:Value}{w:World}(hR:R v w A0):FactU A0 R v w NoA :=
 h v w w A0 _ (Nat.le_refl _) (fun b _ hn=>⟨rfl,fun h=>h.elim (fun h=>h.elim) hn⟩) hR
theorem FactU.done{A0:Nat→Prop}{R:Fact}(h:R.Keeps){v:Value}{w:World}(hR:FactU A0 R v w NoA):R v w A0 :=
 h v w w _ A0 (Nat.le_refl _) (fun b _ hn=>⟨rfl,fun h=>hn (.inr h)⟩) hR
theorem PutR.ratU{m base:Nat}{q:Rat}{w w':World}(h:PutR m q w w'){A0 A:Nat→Prop}(hA0:Rcv A0 w)(hA:Rcv A w)(hm:base≤m)(h0:∀ b,A0 b→b<base):FactU A0 (RatP q) (.pointer (some ⟨m,0,none⟩)) w' (fun b=>A b∧b≠m) :=
 (h.ratP (rcv_un hA0 hA)).wider fun b hb=>hb.elim (fun h=>⟨.inl h.1,h.2⟩) (fun h=>⟨.inr h,fun e=>by have:=h0 b h; omega⟩)
def RatO(q:Rat):Fact:=fun v w A=>(v=.pointer none∧q=0)∨RatP q v w A
theorem RatO.keeps(q:Rat):(RatO q).Keeps:=fun v w w' A A' hs hk h=>h.imp id (RatP.keeps q v w w' A A' hs hk)
theorem RatO.below{q:Rat}{v:Value}{w w':World}{A:Nat→Prop}(h:RatO q v w A)(hb:Below w.heap.size w w'):RatO q v w' A:=Fact.Keeps.below (RatO.keeps q) hb h
theorem RatP.zero{m:Nat}{w:World}{A:Nat→Prop}(h:w.heap[m]?=some zR)(hA:¬A m):RatP 0 (.pointer (some ⟨m,0,none⟩)) w A:=by
 have hlt:=(Array.getElem?_eq_some_iff.1 h).1
 have hn:WSlA A w (.slice none 0 0) (words 0):=by rw[words_zero]; exact⟨none,0,rfl,Nat.le_refl _,fun h=>absurd rfl h⟩
 refine⟨m,rfl,⟨m,0,.slice none 0 0,rfl,hlt,hA,by simp[World.cell?,h],by simp[World.cell?,h],hn⟩,.inr ⟨rfl,m,2,.slice none 0 0,rfl,hlt,hA,by simp[World.cell?,h],by simp[World.cell?,h],hn⟩⟩
set_option maxRecDepth 100000 in
theorem erat_any(q:Rat)(v:Value)(A:Nat→Prop)(w:World)(hx:RatO q v w A)(hA:Rcv A w) :
  Calls Tryz.prog 217 #[v] w fun e w'=>∃ u,e=.returned u∧Below w.heap.size w w'∧RatP q u w' A:=by
 rcases hx with⟨rfl,rfl⟩|hx
 ·have hb:=(Below.refl w.heap.size w).alloc (Nat.le_refl _) zR
  go_enter Tryz.func217,Tryz.ntmps217
  go_wp2
  go_ret
  exact⟨_,rfl,hb,RatP.zero (heap_alloc_new w _) (fun h=>by have:=hA.lt h; omega)⟩
 ·obtain⟨b,rfl⟩:=hx.shape
  have HX:=Lib.hid hx
  clear hx
  go_enter Tryz.func217,Tryz.ntmps217
  go_wp2
  go_ret
  exact⟨_,rfl,Below.refl _ _,HX.out⟩
set_option maxRecDepth 100000 in
theorem emul_any(x y:Rat)(vx vy:Value)(A:Nat→Prop)(w:World)(hx:RatO x vx w A)(hy:RatO y vy w A)(hA:Rcv A w)(k l:Nat)(hlx:RL x k)(hly:RL y l)(hkl:k+l<137438953472) :
  Calls Tryz.prog 224 #[vx,vy] w fun e w'=>∃ u,e=.returned u∧Below w.heap.size w w'∧RatP (x*y) u w' A:=by
 have hal:=(Below.refl w.heap.size w).alloc (Nat.le_refl _) zR
 have HA:=Lib.hid (And.intro hA hal)
 have H1:=Lib.hid (erat_any x vx A (w.alloc zR) (hx.below hal) (hA.below hal))
 have HY:=Lib.hid hy
 clear hx hy hal hA
 go_enter Tryz.func224,Tryz.ntmps224
 go_wp2_with fail
 refine H1.out.mono ?_
 rintro e w1 ⟨u1,rfl,hb1,hr1⟩
 have hb01:Below w.heap.size w w1:=HA.out.2.trans (hb1.mono (by simp))
 have H2:=Lib.hid (erat_any y vy A w1 (HY.out.below hb01) (HA.out.1.below hb01))
 have HR1:=Lib.hid hr1
 clear hr1
 go_wp2_with fail
 refine H2.out.mono ?_
 rintro e w2 ⟨u2,rfl,hb2,hr2⟩
 have hm:w2.heap[w.heap.size]?=some zR:=(hb2.block _ (by have:=hb1.size; simp at this; omega)).trans ((hb1.block _ (by simp)).trans (heap_alloc_new w _))
 have HM:=Lib.hid (RMul_any w.heap.size _ x y u1 u2 A w2 hm (by decide) noW_zRat (HR1.out.below hb2) hr2 k l hlx hly hkl)
 have HB:=Lib.hid (hb01.trans (hb2.mono hb01.size))
 clear H1 H2 HR1 hb1 hb2 hb01 hr2 hm
 go_wp2_with fail
 refine HM.out.mono ?_
 rintro e w3 ⟨rfl,hp⟩
 have hn:=hp.newAt HB.out (Nat.le_refl _)
 have HN:=Lib.hid hn
 clear hn hp HM
 go_wp2
 go_ret
 exact⟨_,rfl,HN.out.1,HN.out.2 A HA.out.1⟩
def NumO(a b:Rat):Fact:=fun v w A=>∃ u1 u2,v=.agg #[u1,u2]∧RatO a u1 w A∧RatO b u2 w A
theorem NumO.keeps(a b:Rat):(NumO a b).Keeps:=fun v w w' A A' hs hk ⟨u1,u2,h1,h2,h3⟩=>⟨u1,u2,h1,RatO.keeps a _ _ _ _ _ hs hk h2,RatO.keeps b _ _ _ _ _ hs hk h3⟩
theorem NumO.below{a b:Rat}{v:Value}{w w':World}{A:Nat→Prop}(h:NumO a b v w A)(hb:Below w.heap.size w w'):NumO a b v w' A:=Fact.Keeps.below (NumO.keeps a b) hb h
abbrev Mo(A:Nat→Prop)(n:Nat):Nat→Prop:=fun b=>A b∨b=n
theorem keep_set(R:Fact)(hR:R.Keeps){n o:Nat}{A:Nat→Prop}{x y:Value}{w:World}(h:R x w (Mo A n)):R x (w.setCell ⟨n,o,none⟩ y) (Mo A n) :=
 hR _ _ _ _ _ (by simp[World.setCell]) (fun b _ hn=>⟨Below.heap_setCell _ _ _ _ (fun e=>hn (.inr e)),hn⟩) h
theorem more_less(R:Fact)(hR:R.Keeps){n:Nat}{A:Nat→Prop}{x:Value}{w:World}(h:R x w (Mo A n)):R x w A :=
 hR _ _ _ _ _ (Nat.le_refl _) (fun b _ hn=>⟨rfl,fun h=>hn (.inl h)⟩) h
theorem put_num{a b:Rat}{v1 v2:Value}{w w1:World}{A:Nat→Prop}{n:Nat}(hb:Below w.heap.size w w1)(h1:RatP a v1 w1 (Mo A n))(h2:RatP b v2 w1 (Mo A n))(hn:w.heap.size≤n) :
  ∃ u,Ending.returned (.agg #[v1,v2])=.returned u∧Below w.heap.size w ((w1.setCell ⟨n,0,none⟩ v1).setCell ⟨n,1,none⟩ v2)∧NumO a b u ((w1.setCell ⟨n,0,none⟩ v1).setCell ⟨n,1,none⟩ v2) A:=by
 refine⟨_,rfl,(hb.setCell (p:=⟨n,0,none⟩) hn _).setCell (p:=⟨n,1,none⟩) hn _,v1,v2,rfl,.inr ?_,.inr ?_⟩
 ·exact more_less _ (RatP.keeps a) (keep_set _ (RatP.keeps a) (keep_set _ (RatP.keeps a) h1))
 ·exact more_less _ (RatP.keeps b) (keep_set _ (RatP.keeps b) (keep_set _ (RatP.keeps b) h2))
theorem new_more{R:Fact}(hR:R.Keeps){n:Nat}{A:Nat→Prop}{x:Value}{w w1:World}(hb:Below w.heap.size w w1)(hn:w.heap.size≤n)(h:R x w A):FactU (Mo A n) R x w1 NoA :=
 hR _ _ _ _ _ hb.size (fun b hlt hna=>⟨hb.block b hlt,fun h=>h.elim (fun h=>h) (fun h=>h.elim hna (fun e=>by omega))⟩) h
theorem noW_num(v1 v2:Value)(h1:∃ p,v1=.pointer p)(h2:∃ p,v2=.pointer p)(T:TypeId):NoW (.cells #[v1,v2] T (0,0)):=by
 obtain⟨p,rfl⟩:=h1
 obtain⟨q,rfl⟩:=h2
 intro cs T fr e i k x
 cases e
 rcases i with _|_|i<;>simp
end Go.Proofs.YthklnbaddobieaaGreat
namespace Go.Proofs.YthklnbaddobieaaGreat
open Go.RowKit Tr
theorem box_two(w:World)(u1 u2 u3 u4:Value)(A:Nat→Prop)(hA:Rcv A w) :
  ∃ W,Hid (W=((w.alloc (.cells #[u1,u2] 167)).alloc (.cells #[u3,u4] 167)).alloc (.cells #[.pointer none,.pointer none] 167)∧Below w.heap.size w W∧Rcv (Mo A (w.heap.size+2)) W∧∀ w1,Below W.heap.size W w1→w1.cell? ⟨w.heap.size+2,0,none⟩=some (.pointer none)∧w1.cell? ⟨w.heap.size+2,1,none⟩=some (.pointer none)∧w1.frozen? ⟨w.heap.size+2,0,none⟩=false∧w1.frozen? ⟨w.heap.size+2,1,none⟩=false)∧w.heap.size<W.heap.size∧w.heap.size+1<W.heap.size∧W.cell? ⟨w.heap.size,0,none⟩=some u1∧W.cell? ⟨w.heap.size,1,none⟩=some u2∧W.cell? ⟨w.heap.size+1,0,none⟩=some u3∧W.cell? ⟨w.heap.size+1,1,none⟩=some u4:=by
 obtain⟨w1,hw1⟩:∃ w1,w1=w.alloc (.cells #[u1,u2] 167):=⟨_,rfl⟩
 have hz1:w1.heap.size=w.heap.size+1:=by rw[hw1]; simp
 obtain⟨w2,hw2⟩:∃ w2,w2=w1.alloc (.cells #[u3,u4] 167):=⟨_,rfl⟩
 have hz2:w2.heap.size=w.heap.size+2:=by rw[hw2]; simp[hz1]
 have hb01:Below w.heap.size w w1:=by rw[hw1]; exact br.alloc (Nat.le_refl _) _
 have hb12:Below w1.heap.size w1 w2:=by rw[hw2]; exact br.alloc (Nat.le_refl _) _
 have hb23:Below w2.heap.size w2 (w2.alloc (.cells #[.pointer none,.pointer none] 167)):=br.alloc (Nat.le_refl _) _
 have hb13:=hb12.trans (hb23.mono hb12.size)
 have hb:Below w.heap.size w (w2.alloc (.cells #[.pointer none,.pointer none] 167)):=hb01.trans (hb13.mono hb01.size)
 obtain⟨e0,e1,_⟩:=new_two w u1 u2 167 (by rw[←hw1]; exact hb13)
 obtain⟨e2,e3,_⟩:=new_two w1 u3 u4 167 (by rw[←hw2]; exact hb23)
 have hn:=heap_alloc_new w2 (.cells #[.pointer none,.pointer none] 167 (0,0))
 rw[hz2] at hn
 rw[hz1] at e2 e3
 refine⟨w2.alloc (.cells #[.pointer none,.pointer none] 167),Lib.hid ⟨by rw[hw2,hw1],hb,fun b h=>h.elim (fun h=>(hA.below hb) b h) (fun h=>by subst h; exact⟨_,hn,noW_num _ _ ⟨_,rfl⟩ ⟨_,rfl⟩ _⟩),fun w1 h=>?_⟩,by simp; omega,by simp; omega,e0,e1,e2,e3⟩
 have:=new_two w2 (.pointer none) (.pointer none) 167 h
 rw[hz2] at this
 exact this
set_option maxRecDepth 100000 in
theorem NSub_any(a b c d:Rat)(v v':Value)(A:Nat→Prop)(w:World)(hv:NumO a b v w A)(hv':NumO c d v' w A)(hA:Rcv A w)(k l:Nat)(hla:RL a k)(hlb:RL b k)(hlc:RL c l)(hld:RL d l)(hkl:k+l+(k+l)<137438953472) :
  Calls Tryz.prog 216 #[v,v'] w fun e w'=>∃ u,e=.returned u∧Below w.heap.size w w'∧NumO (a - c) (b - d) u w' A:=by
 obtain⟨u1,u2,rfl,h1,h2⟩:=hv
 obtain⟨u3,u4,rfl,h3,h4⟩:=hv'
 obtain⟨W,HV,hs1,hs2,e0,e1,e2,e3⟩:=box_two w u1 u2 u3 u4 A hA
 have h1:=new_more (RatO.keeps a) (n:=w.heap.size+2) HV.out.2.1 (by omega) h1
 have h2:=new_more (RatO.keeps b) (n:=w.heap.size+2) HV.out.2.1 (by omega) h2
 have h3:=new_more (RatO.keeps c) (n:=w.heap.size+2) HV.out.2.1 (by omega) h3
 have h4:=new_more (RatO.keeps d) (n:=w.heap.size+2) HV.out.2.1 (by omega) h4
 clear hA
 go_enter Tryz.func216,Tryz.ntmps216
 go_wp2_with fail
 rw[←HV.out.1]
 refine wp_region_inv [(.new zR,[]),(.lit,[]),(.lit,[]),(.val,[]),(.lit,[]),(.lit,[]),(.val,[]),(.on 0 zR,[3,6]),(.new zR,[]),(.lit,[]),(.lit,[]),(.val,[]),(.lit,[]),(.lit,[]),(.val,[]),(.on 8 zR,[11,14])]
  (pickF [(3,FactU (Mo A (w.heap.size+2)) (RatP (a))),(6,FactU (Mo A (w.heap.size+2)) (RatP (c))),(7,FactU (Mo A (w.heap.size+2)) (RatP (a - c))),(11,FactU (Mo A (w.heap.size+2)) (RatP (b))),(14,FactU (Mo A (w.heap.size+2)) (RatP (d))),(15,FactU (Mo A (w.heap.size+2)) (RatP (b - d)))]) (by kernel_rfl) ?_ ?_ (by simp[noW_zRat]) (by simp) (by kernel_rfl)
 ·exact keeps_pick (by simp only[List.mem_cons,List.not_mem_nil,or_false]; rintro p (rfl|rfl|rfl|rfl|rfl|rfl)<;>exact FactU.keeps (RatP.keeps _))
 ·refine⟨fun f w1=>by go_simp,?_⟩
  refine⟨_,fun f w1 h1=>by(have d0:=ct h1 hs1 e0; have d1:=ct h1 hs1 e1; have d2:=ct h1 hs2 e2; have d3:=ct h1 hs2 e3; go_simp; rfl),?_⟩
  refine⟨_,fun f w1 h1=>by(have d0:=ct h1 hs1 e0; have d1:=ct h1 hs1 e1; have d2:=ct h1 hs2 e2; have d3:=ct h1 hs2 e3; go_simp; rfl),?_⟩
  simp only[Act.put,nrA,nrB,nrC,Nat.reduceAdd]
  refine⟨fun f w1 A1 k1 hA hN hd K hK=>by
   go_simp
   refine(erat_any a u1 (Un (Mo A (w.heap.size+2)) A1) w1 (later (FactU.keeps (RatO.keeps _)) h1 k1 hN) (rcv_un (HV.out.2.2.1.below (br.drew.trans k1)) hA)).mono ?_
   rintro e w' ⟨v,rfl,hb,hr⟩
   exact hK _ _ hb hr,?_⟩
  refine⟨_,fun f w1 h1=>by(have d0:=ct h1 hs1 e0; have d1:=ct h1 hs1 e1; have d2:=ct h1 hs2 e2; have d3:=ct h1 hs2 e3; go_simp; rfl),?_⟩
  refine⟨_,fun f w1 h1=>by(have d0:=ct h1 hs1 e0; have d1:=ct h1 hs1 e1; have d2:=ct h1 hs2 e2; have d3:=ct h1 hs2 e3; go_simp; rfl),?_⟩
  simp only[Act.put,nrA,nrB,nrC,Nat.reduceAdd]
  refine⟨fun f w1 A1 k1 hA hN hd K hK=>by
   go_simp
   refine(erat_any c u3 (Un (Mo A (w.heap.size+2)) A1) w1 (later (FactU.keeps (RatO.keeps _)) h3 k1 hN) (rcv_un (HV.out.2.2.1.below (br.drew.trans k1)) hA)).mono ?_
   rintro e w' ⟨v,rfl,hb,hr⟩
   exact hK _ _ hb hr,?_⟩
  simp only[Act.put,nrA,nrB,nrC,Nat.reduceAdd]
  refine⟨fun f w1 A1 m1 k1 hA hN hAm hm0 e hz hd K hK=>by
   simp only[e] at hK ⊢
   have i1:RatP (a) (f 3) w1 (Un (Mo A (w.heap.size+2)) A1):=hd 3 (by simp)
   have i2:RatP (c) (f 6) w1 (Un (Mo A (w.heap.size+2)) A1):=hd 6 (by simp)
   go_simp
   refine(RSub_any m1 _ _ _ _ _ _ w1 hz (by decide) noW_zRat i1 i2 (k) (l) hla hlc (by omega)).mono ?_
   rintro e w' ⟨rfl,hp⟩
   exact hK _ w' hp.1 (hp.ratU (HV.out.2.2.1.below (br.drew.trans k1)) hA hm0 (fun b hb=>HV.out.2.2.1.lt hb)),?_⟩
  refine⟨fun f w1=>by go_simp,?_⟩
  refine⟨_,fun f w1 h1=>by(have d0:=ct h1 hs1 e0; have d1:=ct h1 hs1 e1; have d2:=ct h1 hs2 e2; have d3:=ct h1 hs2 e3; go_simp; rfl),?_⟩
  refine⟨_,fun f w1 h1=>by(have d0:=ct h1 hs1 e0; have d1:=ct h1 hs1 e1; have d2:=ct h1 hs2 e2; have d3:=ct h1 hs2 e3; go_simp; rfl),?_⟩
  simp only[Act.put,nrA,nrB,nrC,Nat.reduceAdd]
  refine⟨fun f w1 A1 k1 hA hN hd K hK=>by
   go_simp
   refine(erat_any b u2 (Un (Mo A (w.heap.size+2)) A1) w1 (later (FactU.keeps (RatO.keeps _)) h2 k1 hN) (rcv_un (HV.out.2.2.1.below (br.drew.trans k1)) hA)).mono ?_
   rintro e w' ⟨v,rfl,hb,hr⟩
   exact hK _ _ hb hr,?_⟩
  refine⟨_,fun f w1 h1=>by(have d0:=ct h1 hs1 e0; have d1:=ct h1 hs1 e1; have d2:=ct h1 hs2 e2; have d3:=ct h1 hs2 e3; go_simp; rfl),?_⟩
  refine⟨_,fun f w1 h1=>by(have d0:=ct h1 hs1 e0; have d1:=ct h1 hs1 e1; have d2:=ct h1 hs2 e2; have d3:=ct h1 hs2 e3; go_simp; rfl),?_⟩
  simp only[Act.put,nrA,nrB,nrC,Nat.reduceAdd]
  refine⟨fun f w1 A1 k1 hA hN hd K hK=>by
   go_simp
   refine(erat_any d u4 (Un (Mo A (w.heap.size+2)) A1) w1 (later (FactU.keeps (RatO.keeps _)) h4 k1 hN) (rcv_un (HV.out.2.2.1.below (br.drew.trans k1)) hA)).mono ?_
   rintro e w' ⟨v,rfl,hb,hr⟩
   exact hK _ _ hb hr,?_⟩
  simp only[Act.put,nrA,nrB,nrC,Nat.reduceAdd]
  refine⟨fun f w1 A1 m1 k1 hA hN hAm hm0 e hz hd K hK=>by
   simp only[e] at hK ⊢
   have i1:RatP (b) (f 11) w1 (Un (Mo A (w.heap.size+2)) A1):=hd 11 (by simp)
   have i2:RatP (d) (f 14) w1 (Un (Mo A (w.heap.size+2)) A1):=hd 14 (by simp)
   go_simp
   refine(RSub_any m1 _ _ _ _ _ _ w1 hz (by decide) noW_zRat i1 i2 (k) (l) hlb hld (by omega)).mono ?_
   rintro e w' ⟨rfl,hp⟩
   exact hK _ w' hp.1 (hp.ratU (HV.out.2.2.1.below (br.drew.trans k1)) hA hm0 (fun b hb=>HV.out.2.2.1.lt hb)),?_⟩
  intro f w1 k1 hF
  have i0:RatP (a) (f 3) w1 ((Mo A (w.heap.size+2))):=FactU.done (RatP.keeps _) hF.1.1.1.1.1.2
  have i1:RatP (c) (f 6) w1 ((Mo A (w.heap.size+2))):=FactU.done (RatP.keeps _) hF.1.1.1.1.2
  have i2:RatP (a - c) (f 7) w1 ((Mo A (w.heap.size+2))):=FactU.done (RatP.keeps _) hF.1.1.1.2
  have i3:RatP (b) (f 11) w1 ((Mo A (w.heap.size+2))):=FactU.done (RatP.keeps _) hF.1.1.2
  have i4:RatP (d) (f 14) w1 ((Mo A (w.heap.size+2))):=FactU.done (RatP.keeps _) hF.1.2
  have i5:RatP (b - d) (f 15) w1 ((Mo A (w.heap.size+2))):=FactU.done (RatP.keeps _) hF.2
  clear hF
  simp only[Act.put,nrA,nrB,nrC]
  generalize f 3=v0 at *
  generalize f 6=v1 at *
  generalize f 7=v2 at *
  generalize f 11=v3 at *
  generalize f 14=v4 at *
  generalize f 15=v5 at *
  have hb1:Below W.heap.size W w1:=br.drew.trans k1
  obtain⟨c0,c1,f0,f1⟩:=HV.out.2.2.2 w1 hb1
  have hbw:=HV.out.2.1.trans (hb1.mono HV.out.2.1.size)
  have HE:=Lib.hid (And.intro i2 (And.intro i5 hbw))
  obtain⟨m1,rfl⟩:=i2.shape
  obtain⟨m2,rfl⟩:=i5.shape
  clear e0 e1 e2 e3 h1 h2 h3 h4 i0 i1 i2 i3 i4 i5 hbw hb1 k1
  go_wp2_with fail
  refine bodyPost_ret (v:=.agg #[.pointer (some ⟨m1,0,none⟩),.pointer (some ⟨m2,0,none⟩)]) (by simp[results,Tryz.results216,go_sem,c0,c1]) rfl ?_
  exact put_num HE.out.2.2 HE.out.1 HE.out.2.1 (by omega)
set_option maxRecDepth 100000 in
theorem NMul_any(a b c d:Rat)(v v':Value)(A:Nat→Prop)(w:World)(hv:NumO a b v w A)(hv':NumO c d v' w A)(hA:Rcv A w)(k l:Nat)(hla:RL a k)(hlb:RL b k)(hlc:RL c l)(hld:RL d l)(hkl:k+l+(k+l)<137438953472) :
  Calls Tryz.prog 215 #[v,v'] w fun e w'=>∃ u,e=.returned u∧Below w.heap.size w w'∧NumO (a*c - b*d) (a*d+b*c) u w' A:=by
 obtain⟨u1,u2,rfl,h1,h2⟩:=hv
 obtain⟨u3,u4,rfl,h3,h4⟩:=hv'
 obtain⟨W,HV,hs1,hs2,e0,e1,e2,e3⟩:=box_two w u1 u2 u3 u4 A hA
 have h1:=new_more (RatO.keeps a) (n:=w.heap.size+2) HV.out.2.1 (by omega) h1
 have h2:=new_more (RatO.keeps b) (n:=w.heap.size+2) HV.out.2.1 (by omega) h2
 have h3:=new_more (RatO.keeps c) (n:=w.heap.size+2) HV.out.2.1 (by omega) h3
 have h4:=new_more (RatO.keeps d) (n:=w.heap.size+2) HV.out.2.1 (by omega) h4
 clear hA
 go_enter Tryz.func215,Tryz.ntmps215
 go_wp2_with fail
 rw[←HV.out.1]
 refine wp_region_inv [(.new zR,[]),(.lit,[]),(.lit,[]),(.lit,[]),(.lit,[]),(.val,[]),(.lit,[]),(.lit,[]),(.lit,[]),(.lit,[]),(.val,[]),(.on 0 zR,[5,10]),(.new zR,[]),(.lit,[]),(.lit,[]),(.lit,[]),(.lit,[]),(.val,[]),(.lit,[]),(.lit,[]),(.lit,[]),(.lit,[]),(.val,[]),(.on 12 zR,[17,22])]
  (pickF [(5,FactU (Mo A (w.heap.size+2)) (RatP (a*c))),(10,FactU (Mo A (w.heap.size+2)) (RatP (b*d))),(11,FactU (Mo A (w.heap.size+2)) (RatP (a*c - b*d))),(17,FactU (Mo A (w.heap.size+2)) (RatP (a*d))),(22,FactU (Mo A (w.heap.size+2)) (RatP (b*c))),(23,FactU (Mo A (w.heap.size+2)) (RatP (a*d+b*c)))]) (by kernel_rfl) ?_ ?_ (by simp[noW_zRat]) (by simp) (by kernel_rfl)
 ·exact keeps_pick (by simp only[List.mem_cons,List.not_mem_nil,or_false]; rintro p (rfl|rfl|rfl|rfl|rfl|rfl)<;>exact FactU.keeps (RatP.keeps _))
 ·refine⟨fun f w1=>by go_simp,?_⟩
  refine⟨_,fun f w1 h1=>by(have d0:=ct h1 hs1 e0; have d1:=ct h1 hs1 e1; have d2:=ct h1 hs2 e2; have d3:=ct h1 hs2 e3; go_simp; rfl),?_⟩
  refine⟨_,fun f w1 h1=>by(have d0:=ct h1 hs1 e0; have d1:=ct h1 hs1 e1; have d2:=ct h1 hs2 e2; have d3:=ct h1 hs2 e3; go_simp; rfl),?_⟩
  refine⟨_,fun f w1 h1=>by(have d0:=ct h1 hs1 e0; have d1:=ct h1 hs1 e1; have d2:=ct h1 hs2 e2; have d3:=ct h1 hs2 e3; go_simp; rfl),?_⟩
  refine⟨_,fun f w1 h1=>by(have d0:=ct h1 hs1 e0; have d1:=ct h1 hs1 e1; have d2:=ct h1 hs2 e2; have d3:=ct h1 hs2 e3; go_simp; rfl),?_⟩
  simp only[Act.put,nrA,nrB,nrC,Nat.reduceAdd]
  refine⟨fun f w1 A1 k1 hA hN hd K hK=>by
   go_simp
   refine(emul_any a c u1 u3 (Un (Mo A (w.heap.size+2)) A1) w1 (later (FactU.keeps (RatO.keeps _)) h1 k1 hN) (later (FactU.keeps (RatO.keeps _)) h3 k1 hN) (rcv_un (HV.out.2.2.1.below (br.drew.trans k1)) hA) k l hla hlc (by omega)).mono ?_
   rintro e w' ⟨v,rfl,hb,hr⟩
   exact hK _ _ hb hr,?_⟩
  refine⟨_,fun f w1 h1=>by(have d0:=ct h1 hs1 e0; have d1:=ct h1 hs1 e1; have d2:=ct h1 hs2 e2; have d3:=ct h1 hs2 e3; go_simp; rfl),?_⟩
  refine⟨_,fun f w1 h1=>by(have d0:=ct h1 hs1 e0; have d1:=ct h1 hs1 e1; have d2:=ct h1 hs2 e2; have d3:=ct h1 hs2 e3; go_simp; rfl),?_⟩
  refine⟨_,fun f w1 h1=>by(have d0:=ct h1 hs1 e0; have d1:=ct h1 hs1 e1; have d2:=ct h1 hs2 e2; have d3:=ct h1 hs2 e3; go_simp; rfl),?_⟩
  refine⟨_,fun f w1 h1=>by(have d0:=ct h1 hs1 e0; have d1:=ct h1 hs1 e1; have d2:=ct h1 hs2 e2; have d3:=ct h1 hs2 e3; go_simp; rfl),?_⟩
  simp only[Act.put,nrA,nrB,nrC,Nat.reduceAdd]
  refine⟨fun f w1 A1 k1 hA hN hd K hK=>by
   go_simp
   refine(emul_any b d u2 u4 (Un (Mo A (w.heap.size+2)) A1) w1 (later (FactU.keeps (RatO.keeps _)) h2 k1 hN) (later (FactU.keeps (RatO.keeps _)) h4 k1 hN) (rcv_un (HV.out.2.2.1.below (br.drew.trans k1)) hA) k l hlb hld (by omega)).mono ?_
   rintro e w' ⟨v,rfl,hb,hr⟩
   exact hK _ _ hb hr,?_⟩
  simp only[Act.put,nrA,nrB,nrC,Nat.reduceAdd]
  refine⟨fun f w1 A1 m1 k1 hA hN hAm hm0 e hz hd K hK=>by
   simp only[e] at hK ⊢
   have i1:RatP (a*c) (f 5) w1 (Un (Mo A (w.heap.size+2)) A1):=hd 5 (by simp)
   have i2:RatP (b*d) (f 10) w1 (Un (Mo A (w.heap.size+2)) A1):=hd 10 (by simp)
   go_simp
   refine(RSub_any m1 _ _ _ _ _ _ w1 hz (by decide) noW_zRat i1 i2 (k+l) (k+l) (RL_mul hla hlc) (RL_mul hlb hld) (by omega)).mono ?_
   rintro e w' ⟨rfl,hp⟩
   exact hK _ w' hp.1 (hp.ratU (HV.out.2.2.1.below (br.drew.trans k1)) hA hm0 (fun b hb=>HV.out.2.2.1.lt hb)),?_⟩
  refine⟨fun f w1=>by go_simp,?_⟩
  refine⟨_,fun f w1 h1=>by(have d0:=ct h1 hs1 e0; have d1:=ct h1 hs1 e1; have d2:=ct h1 hs2 e2; have d3:=ct h1 hs2 e3; go_simp; rfl),?_⟩
  refine⟨_,fun f w1 h1=>by(have d0:=ct h1 hs1 e0; have d1:=ct h1 hs1 e1; have d2:=ct h1 hs2 e2; have d3:=ct h1 hs2 e3; go_simp; rfl),?_⟩
  refine⟨_,fun f w1 h1=>by(have d0:=ct h1 hs1 e0; have d1:=ct h1 hs1 e1; have d2:=ct h1 hs2 e2; have d3:=ct h1 hs2 e3; go_simp; rfl),?_⟩
  refine⟨_,fun f w1 h1=>by(have d0:=ct h1 hs1 e0; have d1:=ct h1 hs1 e1; have d2:=ct h1 hs2 e2; have d3:=ct h1 hs2 e3; go_simp; rfl),?_⟩
  simp only[Act.put,nrA,nrB,nrC,Nat.reduceAdd]
  refine⟨fun f w1 A1 k1 hA hN hd K hK=>by
   go_simp
   refine(emul_any a d u1 u4 (Un (Mo A (w.heap.size+2)) A1) w1 (later (FactU.keeps (RatO.keeps _)) h1 k1 hN) (later (FactU.keeps (RatO.keeps _)) h4 k1 hN) (rcv_un (HV.out.2.2.1.below (br.drew.trans k1)) hA) k l hla hld (by omega)).mono ?_
   rintro e w' ⟨v,rfl,hb,hr⟩
   exact hK _ _ hb hr,?_⟩
  refine⟨_,fun f w1 h1=>by(have d0:=ct h1 hs1 e0; have d1:=ct h1 hs1 e1; have d2:=ct h1 hs2 e2; have d3:=ct h1 hs2 e3; go_simp; rfl),?_⟩
  refine⟨_,fun f w1 h1=>by(have d0:=ct h1 hs1 e0; have d1:=ct h1 hs1 e1; have d2:=ct h1 hs2 e2; have d3:=ct h1 hs2 e3; go_simp; rfl),?_⟩
  refine⟨_,fun f w1 h1=>by(have d0:=ct h1 hs1 e0; have d1:=ct h1 hs1 e1; have d2:=ct h1 hs2 e2; have d3:=ct h1 hs2 e3; go_simp; rfl),?_⟩
  refine⟨_,fun f w1 h1=>by(have d0:=ct h1 hs1 e0; have d1:=ct h1 hs1 e1; have d2:=ct h1 hs2 e2; have d3:=ct h1 hs2 e3; go_simp; rfl),?_⟩
  simp only[Act.put,nrA,nrB,nrC,Nat.reduceAdd]
  refine⟨fun f w1 A1 k1 hA hN hd K hK=>by
   go_simp
   refine(emul_any b c u2 u3 (Un (Mo A (w.heap.size+2)) A1) w1 (later (FactU.keeps (RatO.keeps _)) h2 k1 hN) (later (FactU.keeps (RatO.keeps _)) h3 k1 hN) (rcv_un (HV.out.2.2.1.below (br.drew.trans k1)) hA) k l hlb hlc (by omega)).mono ?_
   rintro e w' ⟨v,rfl,hb,hr⟩
   exact hK _ _ hb hr,?_⟩
  simp only[Act.put,nrA,nrB,nrC,Nat.reduceAdd]
  refine⟨fun f w1 A1 m1 k1 hA hN hAm hm0 e hz hd K hK=>by
   simp only[e] at hK ⊢
   have i1:RatP (a*d) (f 17) w1 (Un (Mo A (w.heap.size+2)) A1):=hd 17 (by simp)
   have i2:RatP (b*c) (f 22) w1 (Un (Mo A (w.heap.size+2)) A1):=hd 22 (by simp)
   go_simp
   refine(RAdd_any m1 _ _ _ _ _ _ w1 hz (by decide) noW_zRat i1 i2 (k+l) (k+l) (RL_mul hla hld) (RL_mul hlb hlc) (by omega)).mono ?_
   rintro e w' ⟨rfl,hp⟩
   exact hK _ w' hp.1 (hp.ratU (HV.out.2.2.1.below (br.drew.trans k1)) hA hm0 (fun b hb=>HV.out.2.2.1.lt hb)),?_⟩
  intro f w1 k1 hF
  have i0:RatP (a*c) (f 5) w1 ((Mo A (w.heap.size+2))):=FactU.done (RatP.keeps _) hF.1.1.1.1.1.2
  have i1:RatP (b*d) (f 10) w1 ((Mo A (w.heap.size+2))):=FactU.done (RatP.keeps _) hF.1.1.1.1.2
  have i2:RatP (a*c - b*d) (f 11) w1 ((Mo A (w.heap.size+2))):=FactU.done (RatP.keeps _) hF.1.1.1.2
  have i3:RatP (a*d) (f 17) w1 ((Mo A (w.heap.size+2))):=FactU.done (RatP.keeps _) hF.1.1.2
  have i4:RatP (b*c) (f 22) w1 ((Mo A (w.heap.size+2))):=FactU.done (RatP.keeps _) hF.1.2
  have i5:RatP (a*d+b*c) (f 23) w1 ((Mo A (w.heap.size+2))):=FactU.done (RatP.keeps _) hF.2
  clear hF
  simp only[Act.put,nrA,nrB,nrC]
  generalize f 5=v0 at *
  generalize f 10=v1 at *
  generalize f 11=v2 at *
  generalize f 17=v3 at *
  generalize f 22=v4 at *
  generalize f 23=v5 at *
  have hb1:Below W.heap.size W w1:=br.drew.trans k1
  obtain⟨c0,c1,f0,f1⟩:=HV.out.2.2.2 w1 hb1
  have hbw:=HV.out.2.1.trans (hb1.mono HV.out.2.1.size)
  have HE:=Lib.hid (And.intro i2 (And.intro i5 hbw))
  obtain⟨m1,rfl⟩:=i2.shape
  obtain⟨m2,rfl⟩:=i5.shape
  clear e0 e1 e2 e3 h1 h2 h3 h4 i0 i1 i2 i3 i4 i5 hbw hb1 k1
  go_wp2_with fail
  refine bodyPost_ret (v:=.agg #[.pointer (some ⟨m1,0,none⟩),.pointer (some ⟨m2,0,none⟩)]) (by simp[results,Tryz.results215,go_sem,c0,c1]) rfl ?_
  exact put_num HE.out.2.2 HE.out.1 HE.out.2.1 (by omega)
end Go.Proofs.YthklnbaddobieaaGreat
namespace Go.Proofs.YthklnbaddobieaaGreat
open Go.RowKit Tr
set_option maxRecDepth 100000 in
theorem NewRat_any(i j:Int)(hi0:-9223372036854775808≤i)(hi1:i<9223372036854775808)(hj0:-9223372036854775808≤j)(hj1:j<9223372036854775808)(hj:j≠0)(w:World) :
  Calls Tryz.prog 218 #[.int .i64 i,.int .i64 j] w fun e w'=>∃ v,e=.returned v∧NewR (Rat.divInt i j) v w w':=by
 have hal:=(Below.refl w.heap.size w).alloc (Nat.le_refl _) zR
 have H1:=Lib.hid (newInt_any i hi0 hi1 (w.alloc zR))
 have HA:=Lib.hid hal
 have HJ:=Lib.hid hj
 have l1:(words i.natAbs).length<274877906944:=Nat.lt_of_le_of_lt (words_length_le (k:=2) (by omega)) (by decide)
 have l2:(words j.natAbs).length<274877906944:=Nat.lt_of_le_of_lt (words_length_le (k:=2) (by omega)) (by decide)
 have HL:=Lib.hid (And.intro l1 l2)
 clear hal hj l1 l2
 go_enter Tryz.func218,Tryz.ntmps218
 go_wp2_with fail
 refine H1.out.mono ?_
 rintro e w1 ⟨v1,rfl,hn1⟩
 have H2:=Lib.hid (newInt_any j hj0 hj1 w1)
 have HN1:=Lib.hid hn1
 clear hn1
 go_wp2_with fail
 refine H2.out.mono ?_
 rintro e w2 ⟨v2,rfl,hn2⟩
 have hb1:=HN1.out.1
 have hm:w2.heap[w.heap.size]?=some zR:=(hn2.1.block _ (by have:=hb1.size; simp at this; omega)).trans ((hb1.block _ (by simp)).trans (heap_alloc_new w _))
 have hb02:Below w.heap.size w w2:=HA.out.trans ((hb1.trans (hn2.1.mono hb1.size)).mono (by simp))
 have HS:=Lib.hid (SetFrac_any w.heap.size _ i j HJ.out v1 v2 NoA w2 hm (by decide) noW_zRat ((HN1.out.2 NoA (rcv_noA _)).below hn2.1) (hn2.2 NoA (rcv_noA _)) HL.out.1 HL.out.2)
 have HB:=Lib.hid hb02
 clear hb1 hm hb02 hn2 H1 H2
 go_wp2_with fail
 refine HS.out.mono ?_
 rintro e w3 ⟨rfl,hp⟩
 have HN:=Lib.hid (hp.newAt HB.out (Nat.le_refl _))
 clear hp HS
 go_wp2
 go_ret
 exact⟨_,rfl,HN.out⟩
theorem num_sign_zero{q:Rat}:q.num.sign=0↔q=0:=by
 rw[Int.sign_eq_zero_iff_zero,Rat.num_eq_zero]
set_option maxRecDepth 100000 in
theorem NZero_any(a b:Rat)(v:Value)(A:Nat→Prop)(w:World)(hv:NumO a b v w A)(r:Bool)(hr:r=true↔a=0∧b=0) :
  Calls Tryz.prog 183 #[v] w fun e w'=>e=.returned (.bool r)∧Below w.heap.size w w':=by
 obtain⟨u1,u2,rfl,h1,h2⟩:=hv
 have hal:Below w.heap.size w (w.alloc (.cells #[u1,u2] 167)):=br.alloc (Nat.le_refl _) _
 have H1:=Lib.hid (erat_any a u1 NoA (w.alloc (.cells #[u1,u2] 167)) ((Fact.Keeps.noA (RatO.keeps a) h1).below hal) (rcv_noA _))
 have HB:=Lib.hid (And.intro hal (And.intro hr (Fact.Keeps.noA (RatO.keeps b) h2)))
 clear hal hr h1 h2
 go_enter Tryz.func183,Tryz.ntmps183
 go_wp2_with fail
 refine H1.out.mono ?_
 rintro e w1 ⟨v1,rfl,hb1,hr1⟩
 have HS:=Lib.hid (RSign_any a v1 NoA w1 hr1)
 obtain⟨e0,e1,_⟩:=new_two w _ _ _ hb1
 obtain⟨sg,hsg⟩:∃ sg,sg=a.num.sign:=⟨_,rfl⟩
 rw[←hsg] at HS
 have HG:=Lib.hid hsg
 clear hsg hr1
 go_wp2_with fail
 refine HS.out.mono ?_
 rintro e w2 ⟨rfl,rfl⟩
 by_cases c:sg=0
 ·have ha:a=0:=num_sign_zero.1 (by rw[←HG.out]; exact c)
  subst c
  have H2:=Lib.hid (erat_any b u2 NoA w1 ((HB.out.2.2.below HB.out.1).below hb1) (rcv_noA _))
  have HB1:=Lib.hid (HB.out.1.trans (hb1.mono (by simp)))
  clear hb1
  go_wp2_with fail
  refine H2.out.mono ?_
  rintro e w3 ⟨v3,rfl,hb3,hr3⟩
  have HS2:=Lib.hid (RSign_any b v3 NoA w3 hr3)
  obtain⟨sg2,hsg2⟩:∃ sg2,sg2=b.num.sign:=⟨_,rfl⟩
  rw[←hsg2] at HS2
  have HG2:=Lib.hid (And.intro hsg2 (HB1.out.trans (hb3.mono HB1.out.size)))
  clear hsg2 hr3 hb3 e0 e1
  go_wp2_with fail
  refine HS2.out.mono ?_
  rintro e w4 ⟨rfl,rfl⟩
  go_wp2
  go_ret
  refine⟨?_,HG2.out.2⟩
  have:r=decide (sg2=0):=by
   have h:=HB.out.2.1
   rw[←num_sign_zero (q:=b),←HG2.out.1] at h
   by_cases h2:sg2=0
   ·rw[decide_eq_true h2]; exact h.2 ⟨ha,h2⟩
   ·rw[decide_eq_false h2]; cases hr:r
    ·rfl
    ·exact absurd (h.1 hr).2 h2
  rw[this]
  first|rfl|(simp; done)|(show Ending.returned (.bool (sg2 == 0))=_; rfl)
 ·have hc:(sg == 0)=false:=by simpa using c
  have hr:r=false:=by
   cases hr:r
   ·rfl
   ·exact absurd (by rw[HG.out]; exact num_sign_zero.2 (HB.out.2.1.1 hr).1) c
  have HB1:=Lib.hid (HB.out.1.trans (hb1.mono (by simp)))
  clear hb1
  go_wp2
  all_goals go_ret
  all_goals exact⟨by rw[hr]; rfl,HB1.out⟩
end Go.Proofs.YthklnbaddobieaaGreat
