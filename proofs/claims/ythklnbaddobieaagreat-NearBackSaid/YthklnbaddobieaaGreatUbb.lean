/- Laws for the walk. -/
import Derived.Test.YthklnbaddobieaaGreatUba
set_option linter.unusedVariables false
set_option maxHeartbeats 4000000
namespace Go.Proofs.YthklnbaddobieaaGreat
open Go.RowKit Tr
theorem size_nil{s:ByteArray}(h:s.size=0):s=⟨#[]⟩:=by
 apply ByteArray.ext
 apply Array.eq_empty_of_size_eq_zero
 exact h
set_option maxRecDepth 100000 in
theorem check_nil(neg:Bool)(w:World) :
  Calls Tryz.prog 57 #[.agg #[.bool neg,.string ⟨#[]⟩]] w fun e w'=>e=.returned (.int .i64 (if neg then 2 else 0))∧Below w.heap.size w w':=by
 cases neg
 ·go_enter Tryz.func57,Tryz.ntmps57
  go_wp2
  go_ret
  exact⟨rfl,br.alloc (Nat.le_refl _) _⟩
 ·go_enter Tryz.func57,Tryz.ntmps57
  go_wp2
  go_ret
  exact⟨rfl,br.alloc (Nat.le_refl _) _⟩
set_option maxRecDepth 100000 in
theorem check_some(neg:Bool)(s:ByteArray)(hs:0<s.size)(r:Int)(hr:r=if s[0].toNat=0∨16384<s.size then 2 else 0)(w:World) :
  Calls Tryz.prog 57 #[.agg #[.bool neg,.string s]] w fun e w'=>e=.returned (.int .i64 r)∧Below w.heap.size w w':=by
 have hne:¬s.toList=[]:=fun h=>by
  have h2:s.toList.length=s.size:=by rw[ByteArray.toList_eq]; simp
  rw[h] at h2; simp at h2; omega
 have hne2:(!s.toList.isEmpty)=true:=by simpa using hne
 by_cases hx:s[0].toNat=0
 ·rw[if_pos (.inl hx)] at hr
  subst hr
  have hb:(((s[0].toNat:Nat):Int) == 0)=true:=by rw[hx]; rfl
  go_enter Tryz.func57,Tryz.ntmps57
  go_wp2
  all_goals go_ret
  all_goals exact⟨rfl,br.alloc (Nat.le_refl _) _⟩
 ·have hb:(((s[0].toNat:Nat):Int) == 0)=false:=by simpa using hx
  by_cases hl:16384<s.size
  ·rw[if_pos (.inr hl)] at hr
   subst hr
   have hl2:(16384:Int)<(s.size:Int):=by omega
   go_enter Tryz.func57,Tryz.ntmps57
   go_wp2
   all_goals go_ret
   all_goals exact⟨rfl,br.alloc (Nat.le_refl _) _⟩
  ·rw[if_neg (by omega)] at hr
   subst hr
   have hl2:¬(16384:Int)<(s.size:Int):=by omega
   go_enter Tryz.func57,Tryz.ntmps57
   go_wp2
   all_goals go_ret
   all_goals exact⟨rfl,br.alloc (Nat.le_refl _) _⟩
def OkW(neg:Bool)(s:ByteArray):Prop:=WForm neg s∧s.size≤16384
theorem noLead_nil:NoLead ⟨#[]⟩:=fun x l h=>by simp at h
theorem lead_head{s:ByteArray}(hs:0<s.size):NoLead s↔s[0].toNat≠0:=by
  have e:s.data.toList=s[0] :: s.data.toList.tail:=by
    cases h:s.data.toList with
    | nil => have : s.data.toList.length = s.size := by simp
             rw[h] at this; simp at this; omega
    | cons x l =>
      have h0:s.data[0]?=some x:=by rw[←Array.getElem?_toList,h]; rfl
      have h1:s[0]=x:=by
        have h2:s.data[0]?=some s[0]:=Array.getElem?_eq_getElem hs
        rw[h2] at h0; simpa using h0
      rw[h1]; rfl
  constructor
  · intro h hx
    exact h _ _ e (UInt8.toNat_inj.1 hx)
  · intro h x l hl hx
    rw[e] at hl
    simp at hl
    rw[←hl.1] at hx
    exact h (by rw[hx]; rfl)
theorem check_ok{neg:Bool}{s:ByteArray}(h:OkW neg s)(w:World):Calls Tryz.prog 57 #[.agg #[.bool neg,.string s]] w fun e w'=>e=.returned (.int .i64 0)∧Below w.heap.size w w':=by
 rcases Nat.eq_zero_or_pos s.size with h0|h0
 ·have:=h.1.1 h0
  subst this
  rw[size_nil h0]
  exact check_nil false w
 ·exact check_some neg s h0 0 (by rw[if_neg]; have:=(lead_head h0).1 h.1.2; have:=h.2; omega) w
theorem check_bad{neg:Bool}{s:ByteArray}(h:¬OkW neg s)(w:World):Calls Tryz.prog 57 #[.agg #[.bool neg,.string s]] w fun e w'=>e=.returned (.int .i64 2)∧Below w.heap.size w w':=by
 rcases Nat.eq_zero_or_pos s.size with h0|h0
 ·have hs:=size_nil h0
  subst hs
  cases neg
  ·exact absurd ⟨⟨fun _=>rfl,noLead_nil⟩,by decide⟩ h
  ·exact check_nil true w
 ·refine check_some neg s h0 2 ?_ w
  rw[if_pos]
  by_cases h1:s[0].toNat=0
  ·exact .inl h1
  ·right
   rcases Nat.lt_or_ge 16384 s.size with h2|h2
   ·exact h2
   ·exact absurd ⟨⟨fun h3=>by omega,(lead_head h0).2 h1⟩,h2⟩ h
set_option maxRecDepth 100000 in
theorem wsign_ok{neg:Bool}{s:ByteArray}(h:OkW neg s)(w:World):Calls Tryz.prog 59 #[.agg #[.bool neg,.string s]] w fun e w'=>e=.returned (.int .i64 (sgn neg (numS s)).sign)∧Below w.heap.size w w':=by
 have HC:=Lib.hid (fun w=>check_ok h w)
 obtain⟨r,hr⟩:∃ r,r=(sgn neg (numS s)).sign:=⟨_,rfl⟩
 rw[←hr]
 have HR:=Lib.hid (And.intro hr h)
 clear hr h
 have arm:∀(w1:World),Below (w.alloc (.cells #[.bool neg,.string s] 23)).heap.size (w.alloc (.cells #[.bool neg,.string s] 23)) w1→w1.cell? ⟨w.heap.size,0,none⟩=some (.bool neg)∧w1.cell? ⟨w.heap.size,1,none⟩=some (.string s)∧Below w.heap.size w w1:=fun w1 hb=>by
  obtain⟨e0,e1,_⟩:=new_two w _ _ _ hb
  exact⟨e0,e1,(br.alloc (Nat.le_refl _) _).trans (hb.mono (by simp))⟩
 have HA:=Lib.hid arm
 clear arm
 rcases Nat.eq_zero_or_pos s.size with h0|h0
 ·obtain rfl:neg=false:=HR.out.2.1.1 h0
  obtain rfl:=size_nil h0
  have h1:r=0:=by rw[HR.out.1,(numS_zero noLead_nil).2 rfl]; rfl
  subst h1
  clear h0
  go_enter Tryz.func59,Tryz.ntmps59
  go_wp2_with (go_at_call 57; refine(HC.out _).mono ?_; rintro e w1 ⟨rfl,hb⟩; obtain⟨e0,e1,hbw⟩:=HA.out w1 hb; clear hb)
  go_ret
  exact⟨rfl,hbw⟩
 ·have hne:¬s.toList=[]:=fun h=>by
   have h2:s.toList.length=s.size:=by rw[ByteArray.toList_eq]; simp
   rw[h] at h2; simp at h2; omega
  have hne2:(!s.toList.isEmpty)=true:=by simpa using hne
  have hn0:numS s≠0:=fun h=>by have:=(numS_zero HR.out.2.1.2).1 h; omega
  cases neg
  ·have h1:r=1:=by rw[HR.out.1]; unfold sgn; exact Int.sign_eq_one_of_pos (by simp; omega)
   subst h1
   clear hn0
   go_enter Tryz.func59,Tryz.ntmps59
   go_wp2_with (go_at_call 57; refine(HC.out _).mono ?_; rintro e w1 ⟨rfl,hb⟩; obtain⟨e0,e1,hbw⟩:=HA.out w1 hb; clear hb)
   go_ret
   exact⟨rfl,hbw⟩
  ·have h1:r=-1:=by rw[HR.out.1]; unfold sgn; exact Int.sign_eq_neg_one_of_neg (by simp; omega)
   subst h1
   clear hn0
   go_enter Tryz.func59,Tryz.ntmps59
   go_wp2_with (go_at_call 57; refine(HC.out _).mono ?_; rintro e w1 ⟨rfl,hb⟩; obtain⟨e0,e1,hbw⟩:=HA.out w1 hb; clear hb)
   go_ret
   exact⟨rfl,hbw⟩
set_option maxRecDepth 100000 in
theorem short_ok(neg:Bool)(s:ByteArray)(b:Bool)(hb:b=decide ((s.size:Int)≤1024))(w:World):Calls Tryz.prog 58 #[.agg #[.bool neg,.string s]] w fun e w'=>e=.returned (.bool b)∧Below w.heap.size w w':=by
 subst hb
 go_enter Tryz.func58,Tryz.ntmps58
 go_wp2
 go_ret
 exact⟨rfl,br.alloc (Nat.le_refl _) _⟩
end Go.Proofs.YthklnbaddobieaaGreat
namespace Go.Proofs.YthklnbaddobieaaGreat
open Go.RowKit Tr
def FracOk(v:Value):Prop:=∃ q:Rat,v=encF q∧(strN q.num.natAbs).size≤1024∧(strN q.den).size≤1024
open Classical in
noncomputable def chkR(neg:Bool)(s:ByteArray):Int:=if OkW neg s then 0 else 2
theorem chkR_any(neg:Bool)(s:ByteArray)(w:World):Calls Tryz.prog 57 #[.agg #[.bool neg,.string s]] w fun e w'=>e=.returned (.int .i64 (chkR neg s))∧Below w.heap.size w w':=by
 unfold chkR
 split
 ·rename_i h; exact check_ok h w
 ·rename_i h; exact check_bad h w
theorem chkR_zero{neg:Bool}{s:ByteArray}:chkR neg s=0↔OkW neg s:=by unfold chkR; split<;>simp[*]
theorem okW_strN(z:Int)(h:(strN z.natAbs).size≤16384):OkW (decide (z<0)) (strN z.natAbs):=by
 refine⟨⟨fun h0=>?_,noLead_strN _⟩,h⟩
 have:z.natAbs=0:=by
  have:=(numS_zero (noLead_strN z.natAbs)).2 h0
  rwa[numS_strN] at this
 have:z=0:=by omega
 subst this; rfl
theorem encF_parts{q:Rat}{n1 n2:Bool}{s1 s2:ByteArray}(h:Value.agg #[.bool n1,.string s1,.bool n2,.string s2]=encF q):n1=decide (q.num<0)∧s1=strN q.num.natAbs∧n2=false∧s2=strN q.den:=by
 unfold encF at h
 simpa using h
theorem encF_divInt{q:Rat}{n1 n2:Bool}{s1 s2:ByteArray}(h:Value.agg #[.bool n1,.string s1,.bool n2,.string s2]=encF q):Rat.divInt (sgn n1 (numS s1)) (sgn n2 (numS s2))=q:=by
 obtain⟨rfl,rfl,rfl,rfl⟩:=encF_parts h
 rw[numS_strN,numS_strN,sgn_self]
 show Rat.divInt q.num ((q.den:Nat):Int)=q
 exact Rat.num_divInt_den q
theorem toL_iff{a b:ByteArray}:a.toList=b.toList↔a=b:=by
 rw[ByteArray.toList_eq,ByteArray.toList_eq]
 constructor
 ·intro h; cases a; cases b; simp_all
 ·rintro rfl; rfl
theorem wl_size{n:Nat}{s:ByteArray}(h:numS s=n):(words n).length≤s.size:=by
 subst h
 exact words_length_le (Nat.lt_of_lt_of_le (numS_lt s) (Nat.pow_le_pow_left (by decide) _))
set_option maxRecDepth 100000 in
theorem May_free (n1 n2 : Bool) (s1 s2 : ByteArray) (r : Bool) (hr : r = true ↔ FracOk (.agg #[.bool n1,.string s1,.bool n2,.string s2])) (w : World) :
    Calls Tryz.prog 22 #[.agg #[.bool n1,.string s1,.bool n2,.string s2]] w fun e w'=>e=.returned (.bool r)∧Below w.heap.size w w':=by
  have HR:=Lib.hid hr
  have HK:=Lib.hid (fun neg s w=>chkR_any neg s w)
  clear hr
  have HF:=Lib.hid (fun(h:¬FracOk (.agg #[.bool n1,.string s1,.bool n2,.string s2]))=>show r=false by cases hr:r; rfl; exact absurd (HR.out.1 hr) h)
  have HAL:=Lib.hid (show Below w.heap.size w (w.alloc (.cells #[.bool n1,.string s1,.bool n2,.string s2] 25)) from br.alloc (Nat.le_refl _) _)
  -- what a fraction that may be says of the parts
  have HP:=Lib.hid (fun(h:FracOk (.agg #[.bool n1,.string s1,.bool n2,.string s2]))=>show OkW n1 s1∧OkW n2 s2∧s1.size≤1024∧s2.size≤1024∧n2=false∧0<s2.size by
    obtain⟨q,e,k1,k2⟩:=h
    obtain⟨rfl,rfl,rfl,rfl⟩:=encF_parts e
    refine⟨okW_strN _ (by omega),?_,k1,k2,rfl,?_⟩
    · have:=okW_strN (q.den:Int) (by simp; omega)
      rw[show decide ((q.den:Int)<0)=false by simp] at this
      simpa using this
    · rcases Nat.eq_zero_or_pos (strN q.den).size with h0|h0
      · have:=(numS_zero (noLead_strN q.den)).2 h0
        rw[numS_strN] at this
        exact absurd this q.den_nz
      · exact h0)
  go_enter Tryz.func22,Tryz.ntmps22
  go_wp2_with fail
  refine(HK.out n1 s1 _).mono ?_
  rintro e w1 ⟨rfl,hb1⟩
  obtain⟨e0,e1,e2,e3,_⟩:=new_four w _ _ _ _ _ hb1
  by_cases c1:chkR n1 s1=0
  · rw[c1]
    go_wp2_with fail
    refine(HK.out n2 s2 _).mono ?_
    rintro e w2 ⟨rfl,hb2⟩
    have hb12:=hb1.trans (hb2.mono hb1.size)
    clear e0 e1 e2 e3
    obtain⟨e0,e1,e2,e3,_⟩:=new_four w _ _ _ _ _ hb12
    by_cases c2:chkR n2 s2=0
    · rw[c2]
      have k1:=chkR_zero.1 c1
      have k2:=chkR_zero.1 c2
      obtain⟨b1,hb1'⟩:∃ b1,b1=decide ((s1.size:Int)≤1024):=⟨_,rfl⟩
      obtain⟨b2,hb2'⟩:∃ b2,b2=decide ((s2.size:Int)≤1024):=⟨_,rfl⟩
      have HB:=Lib.hid (And.intro hb1' hb2')
      clear hb1' hb2'
      go_wp2_with fail
      refine(short_ok n1 s1 b1 HB.out.1 _).mono ?_
      rintro e w3 ⟨rfl,hb3⟩
      have hb13:=hb12.trans (hb3.mono hb12.size)
      clear e0 e1 e2 e3
      obtain⟨e0,e1,e2,e3,_⟩:=new_four w _ _ _ _ _ hb13
      cases b1
      · go_wp2
        go_ret
        exact⟨by rw[HF.out (fun hk=>by have h1:=(HP.out hk).2.2.1; have h2:=HB.out.1; simp at h2; omega)]; rfl,HAL.out.trans (hb13.mono (by simp))⟩
      · go_wp2_with fail
        refine(short_ok n2 s2 b2 HB.out.2 _).mono ?_
        rintro e w4 ⟨rfl,hb4⟩
        have hb14:=hb13.trans (hb4.mono hb13.size)
        clear e0 e1 e2 e3
        obtain⟨e0,e1,e2,e3,_⟩:=new_four w _ _ _ _ _ hb14
        cases b2
        · go_wp2
          go_ret
          exact⟨by rw[HF.out (fun hk=>by have h1:=(HP.out hk).2.2.2.1; have h2:=HB.out.2; simp at h2; omega)]; rfl,HAL.out.trans (hb14.mono (by simp))⟩
        · obtain⟨sg,hsg⟩:∃ sg,sg=(sgn n2 (numS s2)).sign:=⟨_,rfl⟩
          have HS:=Lib.hid (fun w=>wsign_ok k2 w)
          rw[←hsg] at HS
          have HG:=Lib.hid hsg
          clear hsg
          go_wp2_with fail
          refine(HS.out _).mono ?_
          rintro e w5 ⟨rfl,hb5⟩
          have hb15:=hb14.trans (hb5.mono hb14.size)
          clear e0 e1 e2 e3
          obtain⟨e0,e1,e2,e3,_⟩:=new_four w _ _ _ _ _ hb15
          by_cases c3:sg≤0
          · go_wp2
            go_ret
            have hno:¬FracOk (.agg #[.bool n1,.string s1,.bool n2,.string s2]):=fun hk=>by
              obtain⟨_,_,_,_,h1,h2⟩:=HP.out hk
              subst h1
              have h3:numS s2≠0:=fun h=>by have:=(numS_zero k2.1.2).1 h; omega
              have h4:sg=1:=by rw[HG.out]; unfold sgn; exact Int.sign_eq_one_of_pos (by simp; omega)
              omega
            exact⟨by rw[HF.out hno]; rfl,HAL.out.trans (hb15.mono (by simp))⟩
          · have hn2 : n2 = false := by
              cases n2
              · rfl
              · exfalso
                apply c3
                rw[HG.out]; unfold sgn
                rcases Nat.eq_zero_or_pos (numS s2) with h|h
                · simp[h]
                · rw[Int.sign_eq_neg_one_of_neg (by simp; omega)]; decide
            have hd0:numS s2≠0:=fun h=>by
              apply c3
              rw[HG.out,h]; unfold sgn; simp
            have hBw:=HAL.out.trans (hb15.mono (by simp))
            have hlt:w.heap.size<w5.heap.size:=by have:=hb15.size; simp at this; omega
            have HQ:=Lib.hid (And.intro k1 (And.intro k2 (And.intro hd0 hBw)))
            clear HS HG hb1 hb2 hb3 hb4 hb5 hb12 hb13 hb14 hb15 k1 k2 hd0 hBw c1 c2
            subst hn2
            obtain⟨q,hq⟩:∃ q,q=Rat.divInt (sgn n1 (numS s1)) (sgn false (numS s2)):=⟨_,rfl⟩
            have HRat:=Lib.hid (fun w=>rat_any n1 false s1 s2 HQ.out.2.2.1 (by have:=HB.out.1; simp at this; omega) (by have:=HB.out.2; simp at this; omega) w)
            rw[←hq] at HRat
            have hql:RL q 137438953472:=by
              rw[hq]
              refine(RL_divInt (k:=1024) (by unfold sgn; simpa using HQ.out.2.2.1) ?_ ?_).mono (by decide)
              · rw[natAbs_sgn]; exact Nat.le_trans (wl_size rfl) (by have:=HB.out.1; simp at this; omega)
              · rw[natAbs_sgn]; exact Nat.le_trans (wl_size rfl) (by have:=HB.out.2; simp at this; omega)
            have hre:(r=true)↔Value.agg #[.bool n1,.string s1,.bool false,.string s2]=encF q:=by
              constructor
              · intro hr
                obtain⟨q',hq',_⟩:=HR.out.1 hr
                have:=encF_divInt hq'
                rw[←hq] at this
                rw[this]; exact hq'
              · intro he
                obtain⟨a1,a2,a3,a4⟩:=encF_parts he
                refine HR.out.2 ⟨q,he,?_,?_⟩
                · rw[←a2]; have:=HB.out.1; simp at this; omega
                · rw[←a4]; have:=HB.out.2; simp at this; omega
            obtain⟨bq,hbq⟩:∃ bq,bq=decide (q.num<0):=⟨_,rfl⟩
            obtain⟨t1,ht1⟩:∃ t1,t1=strN q.num.natAbs:=⟨_,rfl⟩
            obtain⟨t2,ht2⟩:∃ t2,t2=strN q.den:=⟨_,rfl⟩
            have heq:encF q=.agg #[.bool bq,.string t1,.bool false,.string t2]:=by rw[hbq,ht1,ht2]; rfl
            rw[heq] at hre
            have HRE:=Lib.hid (And.intro hre (And.intro hql heq))
            clear hq hbq ht1 ht2 heq hql hre HB HP
            go_wp2_with fail
            refine wp_region_inv [(.lit,[]),(.val,[]),(.val,[1]),(.lit,[])]
              (pickF [(1,RatP q),(2,fun v _ _=>v=.agg #[.bool bq,.string t1,.bool false,.string t2])]) (by kernel_rfl) ?_ ?_ (by simp) (by simp) (by kernel_rfl)
            · exact keeps_pick (by simp only[List.mem_cons,List.not_mem_nil,or_false]; rintro p (rfl|rfl); exact RatP.keeps q; exact fun _ _ _ _ _ _ _ h=>h)
            · refine⟨_,fun f w1 h1=>by(have d0:=ct h1 hlt e0; have d1:=ct h1 hlt e1; have d2:=ct h1 hlt e2; have d3:=ct h1 hlt e3; go_simp; rfl),?_⟩
              simp only[Act.put,nrA,nrB,nrC,Nat.reduceAdd]
              refine⟨fun f w1 A1 k1 hA hN hd K hK=>by
                go_simp
                refine(HRat.out w1).mono ?_
                rintro e w' ⟨v,rfl,hn⟩
                exact hK _ _ hn.1 (hn.2 A1 hA),?_⟩
              simp only[Act.put,nrA,nrB,nrC,Nat.reduceAdd]
              refine⟨fun f w1 A1 k1 hA hN hd K hK=>by
                have i1:RatP q (f 1) w1 A1:=hd 1 (by simp)
                go_simp
                refine(told_any q _ A1 w1 i1 HRE.out.2.1).mono ?_
                rintro e w' ⟨rfl,hb⟩
                exact hK _ _ hb HRE.out.2.2,?_⟩
              simp only[Act.put,nrA,nrB,nrC,Nat.reduceAdd]
              refine⟨_,fun f w1 h1=>by(have d0:=ct h1 hlt e0; have d1:=ct h1 hlt e1; have d2:=ct h1 hlt e2; have d3:=ct h1 hlt e3; go_simp; rfl),?_⟩
              intro f w1 k1 hF
              have i2:f 2=.agg #[.bool bq,.string t1,.bool false,.string t2]:=hF.2
              clear hF
              simp only[Act.put,nrA,nrB,nrC]
              rw[i2]
              generalize f 1=v1
              clear i2
              go_wp2
              all_goals (
                go_ret
                refine⟨?_,HQ.out.2.2.2.trans ((br.drew.trans k1).mono HQ.out.2.2.2.size)⟩
                have hre:=HRE.out.1
                simp only[Value.agg.injEq,Array.mk.injEq,List.cons.injEq,Value.bool.injEq,Value.string.injEq,true_and,and_true] at hre
                simp only[toL_iff] at *
                first
                  | (have hr : r = true := hre.2 (by simp [*])
                     rw[hr]; rfl)
                  | (have hr : r = false := by
                       cases h:r
                       · rfl
                       · obtain⟨a,b,c⟩:=hre.1 h
                         exfalso
                         subst a b c
                         contradiction
                     rw[hr]; rfl))
    · go_wp2
      go_ret
      exact⟨by rw[HF.out (fun hk=>c2 (chkR_zero.2 (HP.out hk).2.1))]; rfl,HAL.out.trans (hb12.mono (by simp))⟩
  · go_wp2
    go_ret
    exact⟨by rw[HF.out (fun hk=>c1 (chkR_zero.2 (HP.out hk).1))]; rfl,HAL.out.trans (hb1.mono (by simp))⟩
theorem RL_int(n:Int){k:Nat}(h:(words n.natAbs).length≤k)(hk:1≤k):RL (n:Rat) k:=by
 refine⟨?_,?_⟩
 ·rw[Rat.num_intCast]; exact h
 ·rw[Rat.den_intCast]; exact Nat.le_trans (words_length_le (k:=1) (by decide)) hk
theorem RL_i64(n:Int)(h0:-9223372036854775808≤n)(h1:n<9223372036854775808):RL (n:Rat) 2:=RL_int n (words_length_le (k:=2) (by omega)) (by decide)
theorem encF_two(q:Rat):∃ b1 t1 t2,encF q=.agg #[.bool b1,.string t1,.bool false,.string t2]:=⟨_,_,_,rfl⟩
set_option maxRecDepth 100000 in
theorem FInt_any(n:Int)(hn0:-9223372036854775808≤n)(hn1:n<9223372036854775808)(w:World) :
  Calls Tryz.prog 104 #[.int .i64 n] w fun e w'=>e=.returned (encF n)∧Below w.heap.size w w':=by
 have HA:=Lib.hid (show Below w.heap.size w (w.alloc (.cells #[.bool false,.string ⟨#[]⟩,.bool false,.string ⟨#[]⟩] 25)) from br.alloc (Nat.le_refl _) _)
 have HS:=Lib.hid (RSetInt64_any (w.heap.size+1) _ n hn0 hn1 ((w.alloc (.cells #[.bool false,.string ⟨#[]⟩,.bool false,.string ⟨#[]⟩] 25)).alloc zR) (by have:=heap_alloc_new (w.alloc (.cells #[.bool false,.string ⟨#[]⟩,.bool false,.string ⟨#[]⟩] 25)) zR; simpa using this) (by decide) noW_zRat)
 go_enter Tryz.func104,Tryz.ntmps104
 go_wp2_with fail
 refine HS.out.mono ?_
 rintro e w1 ⟨rfl,hp⟩
 have hr:=(hp.ratP (rcv_noA _)).noA
 have HT:=Lib.hid (told_any _ _ NoA w1 hr ((RL_i64 n hn0 hn1).mono (by decide)))
 have hz:(w.alloc (.cells #[.bool false,.string ⟨#[]⟩,.bool false,.string ⟨#[]⟩] 25)).heap.size=w.heap.size+1:=by simp
 have hb1:=below_of_alloc (by rw[hz]; exact hp.1)
 clear HS hp hr
 go_wp2_with fail
 refine HT.out.mono ?_
 rintro e w2 ⟨rfl,hb2⟩
 have hb12:=hb1.trans (hb2.mono hb1.size)
 obtain⟨e0,e1,e2,e3,f0,f1,f2,f3⟩:=new_four w _ _ _ _ _ hb12
 have HB:=Lib.hid (HA.out.trans (hb12.mono (by simp)))
 obtain⟨b1,t1,t2,he⟩:=encF_two n
 have HE:=Lib.hid he
 rw[he]
 clear he hb1 hb2 hb12 HT hz
 go_wp2_with fail
 refine bodyPost_ret (v:=.agg #[.bool b1,.string t1,.bool false,.string t2]) (by simp[results,Tryz.results104,go_sem,e0,e1,e2,e3]) rfl ⟨by rw[HE.out],?_⟩
 exact((((HB.out.setCell (p:=⟨w.heap.size,0,none⟩) (Nat.le_refl _) _).setCell (p:=⟨w.heap.size,1,none⟩) (Nat.le_refl _) _).setCell (p:=⟨w.heap.size,2,none⟩) (Nat.le_refl _) _).setCell (p:=⟨w.heap.size,3,none⟩) (Nat.le_refl _) _)
end Go.Proofs.YthklnbaddobieaaGreat
namespace Go.Proofs.YthklnbaddobieaaGreat
open Go.RowKit Tr
end Go.Proofs.YthklnbaddobieaaGreat
namespace Go.Proofs.YthklnbaddobieaaGreat
open Go.RowKit Tr
abbrev Un(A0 A:Nat→Prop):Nat→Prop:=fun b=>A b∨A0 b
def FactU(A0:Nat→Prop)(R:Fact):Fact:=fun v w A=>R v w (Un A0 A)
theorem FactU.keeps{A0:Nat→Prop}{R:Fact}(h:R.Keeps):(FactU A0 R).Keeps:=by
 intro v w w' A A' hs hk hR
 refine h v w w' _ _ hs (fun b hb hn=>?_) hR
 obtain⟨k1,k2⟩:=hk b hb (fun h=>hn (.inl h))
 exact⟨k1,fun h=>h.elim k2 (fun h=>hn (.inr h))⟩
theorem FactU.start{A0:Nat→Prop}{R:Fact}(h:R.Keeps){v:Value}{w:World}(hR:R v w A0):FactU A0 R v w NoA :=
 h v w w A0 _ (Nat.le_refl _) (fun b _ hn=>⟨rfl,fun h=>h.elim (fun h=>h.elim) hn⟩) hR
theorem FactU.done{A0:Nat→Prop}{R:Fact}(h:R.Keeps){v:Value}{w:World}(hR:FactU A0 R v w NoA):R v w A0 :=
 h v w w _ A0 (Nat.le_refl _) (fun b _ hn=>⟨rfl,fun h=>hn (.inr h)⟩) hR
def RatO(q:Rat):Fact:=fun v w A=>(v=.pointer none∧q=0)∨RatP q v w A
theorem RatO.keeps(q:Rat):(RatO q).Keeps:=fun v w w' A A' hs hk h=>h.imp id (RatP.keeps q v w w' A A' hs hk)
theorem RatO.below{q:Rat}{v:Value}{w w':World}{A:Nat→Prop}(h:RatO q v w A)(hb:Below w.heap.size w w'):RatO q v w' A:=Fact.Keeps.below (RatO.keeps q) hb h
theorem RatP.zero{m:Nat}{w:World}{A:Nat→Prop}(h:w.heap[m]?=some zR)(hA:¬A m):RatP 0 (.pointer (some ⟨m,0,none⟩)) w A:=by
 have hlt:=(Array.getElem?_eq_some_iff.1 h).1
 have hn:WSlA A w (.slice none 0 0) (words 0):=by rw[words_zero]; exact⟨none,0,rfl,Nat.le_refl _,fun h=>absurd rfl h⟩
 refine⟨m,rfl,⟨m,0,.slice none 0 0,rfl,hlt,hA,by simp[World.cell?,h],by simp[World.cell?,h],hn⟩,.inr ⟨rfl,m,2,.slice none 0 0,rfl,hlt,hA,by simp[World.cell?,h],by simp[World.cell?,h],hn⟩⟩
def NumO(a b:Rat):Fact:=fun v w A=>∃ u1 u2,v=.agg #[u1,u2]∧RatO a u1 w A∧RatO b u2 w A
theorem NumO.keeps(a b:Rat):(NumO a b).Keeps:=fun v w w' A A' hs hk ⟨u1,u2,h1,h2,h3⟩=>⟨u1,u2,h1,RatO.keeps a _ _ _ _ _ hs hk h2,RatO.keeps b _ _ _ _ _ hs hk h3⟩
theorem NumO.below{a b:Rat}{v:Value}{w w':World}{A:Nat→Prop}(h:NumO a b v w A)(hb:Below w.heap.size w w'):NumO a b v w' A:=Fact.Keeps.below (NumO.keeps a b) hb h
end Go.Proofs.YthklnbaddobieaaGreat
namespace Go.Proofs.YthklnbaddobieaaGreat
open Go.RowKit Tr
end Go.Proofs.YthklnbaddobieaaGreat
namespace Go.Proofs.YthklnbaddobieaaGreat
open Go.RowKit Tr
end Go.Proofs.YthklnbaddobieaaGreat
namespace Go.Proofs.YthklnbaddobieaaGreat
open Go.RowKit Tr
theorem BSl.below{w w':World}{v:Value}{s:ByteArray}(h:BSl w v s)(hb:Below w.heap.size w w'):BSl w' v s:=by
 obtain⟨b,off,cap,rfl,hlt,h⟩:=h
 exact⟨b,off,cap,rfl,Nat.lt_of_lt_of_le hlt hb.size,fun i hi=>(hb.cell (p:=⟨b,off+i,none⟩) hlt).trans (h i hi)⟩
def ShortF(q:Rat):Prop:=(strN q.num.natAbs).size≤1024∧(strN q.den).size≤1024
instance (q:Rat):Decidable (ShortF q):=by unfold ShortF; infer_instance
def zF:Value:=.agg #[.bool false,.string ⟨#[]⟩,.bool false,.string ⟨#[]⟩]
def outF(q:Rat):Value:=if ShortF q then encF q else zF
def outC(q:Rat):Int:=if ShortF q then 0 else 4
end Go.Proofs.YthklnbaddobieaaGreat
namespace Tr
open Go Go.RowKit
section
variable{P:Program}{L:List GF}
def goLenS(t:TypeId)(ht:P.underlying t=some .string)(x:AC)(s:ByteArray)(res:AC)(hn:x.noown=true:=by rfl)(hx:x.gv L=some (.string s):=by rfl)(hr:res.gv L=some (.int .i64 (s.size:Nat)):=by rfl):GO P L :=
 goLenG t (.c x) res (fun w A u ty hu=>by
  have e:u=.string s:=(AC.gv_ok (x:=x) hx).1 hu
  subst e
  simp[Builtin.len_,run_underlying ht,goInt]) (by simpa[AR.noown,AR.cells] using hn) hr
end
end Tr
namespace Go.Proofs.YthklnbaddobieaaGreat
open Go.RowKit Tr
end Go.Proofs.YthklnbaddobieaaGreat
namespace Go.Proofs.YthklnbaddobieaaGreat
open Go.RowKit Tr
def RatB(base:Nat)(q:Rat):Fact:=fun v w A=>∃ m C,v=.pointer (some ⟨m,0,none⟩)∧base≤m∧¬A m∧w.heap[m]?=some (.cells C 133 (0,0))∧C.size=4∧NoW (.cells C 133 (0,0))∧RatP q v w A
theorem RatB.keeps(base:Nat)(q:Rat):(RatB base q).Keeps:=by
 intro v w w' A A' hs hk ⟨m,C,h1,h2,h3,h4,h5,h6,h7⟩
 obtain⟨k1,k2⟩:=hk m (Array.getElem?_eq_some_iff.1 h4).1 h3
 exact⟨m,C,h1,h2,k2,k1.trans h4,h5,h6,RatP.keeps q _ _ _ _ _ hs hk h7⟩
def CP(a b:Rat):Fact:=fun v w A=>∃ u1 u2,v=.agg #[u1,u2]∧RatP a u1 w A∧RatP b u2 w A
theorem CP.keeps(a b:Rat):(CP a b).Keeps:=fun v w w' A A' hs hk ⟨u1,u2,h1,h2,h3⟩=>⟨u1,u2,h1,RatP.keeps a _ _ _ _ _ hs hk h2,RatP.keeps b _ _ _ _ _ hs hk h3⟩
theorem CP.below{a b:Rat}{v:Value}{w w':World}{A:Nat→Prop}(h:CP a b v w A)(hb:Below w.heap.size w w'):CP a b v w' A:=Fact.Keeps.below (CP.keeps a b) hb h
end Go.Proofs.YthklnbaddobieaaGreat
namespace Go.Proofs.YthklnbaddobieaaGreat
open Go.RowKit Tr
end Go.Proofs.YthklnbaddobieaaGreat
namespace Go.Proofs.YthklnbaddobieaaGreat
open Go.RowKit Tr
set_option maxRecDepth 100000 in
theorem XRat_any(n1 n2:Bool)(s1 s2:ByteArray)(hd0:numS s2≠0)(h1:s1.size<274877906944)(h2:s2.size<274877906944)(w:World) :
  Calls Tryz.prog 35 #[.agg #[.bool n1,.string s1,.bool n2,.string s2]] w fun e w'=>∃ v,e=.returned v∧NewR (Rat.divInt (sgn n1 (numS s1)) (sgn n2 (numS s2))) v w w':=by
 have hdz:sgn n2 (numS s2)≠0:=by unfold sgn; cases n2<;>simp<;>omega
 have HZ:=Lib.hid hdz
 have l1:(words (sgn n1 (numS s1)).natAbs).length<274877906944:=by rw[natAbs_sgn]; exact Nat.lt_of_le_of_lt (words_length_le (k:=s1.size) (Nat.lt_of_lt_of_le (numS_lt s1) (Nat.pow_le_pow_left (by decide) _))) h1
 have l2:(words (sgn n2 (numS s2)).natAbs).length<274877906944:=by rw[natAbs_sgn]; exact Nat.lt_of_le_of_lt (words_length_le (k:=s2.size) (Nat.lt_of_lt_of_le (numS_lt s2) (Nat.pow_le_pow_left (by decide) _))) h2
 have HL:=Lib.hid (And.intro l1 l2)
 clear hdz hd0 l1 l2
 go_enter Tryz.func35,Tryz.ntmps35
 go_wp2_with fail
 obtain⟨W,hW⟩:∃ W,W=w.alloc (.cells #[.bool n1,.string s1,.bool n2,.string s2] 25):=⟨_,rfl⟩
 have hB:Below w.heap.size w W:=by rw[hW]; exact br.alloc (Nat.le_refl _) _
 have hWs:w.heap.size<W.heap.size:=by rw[hW]; simp
 obtain⟨e0,e1,e2,e3,_⟩:=new_four w (.bool n1) (.string s1) (.bool n2) (.string s2) 25 br
 rw[←hW] at e0 e1 e2 e3 ⊢
 clear hW
 refine wp_region_inv [(.new zR,[]),(.lit,[]),(.lit,[]),(.val,[]),(.lit,[]),(.lit,[]),(.val,[]),(.on 0 zR,[3,6])]
  (pickF [(3,IntP (sgn n1 (numS s1))),(6,IntP (sgn n2 (numS s2))),(7,RatM W.heap.size (Rat.divInt (sgn n1 (numS s1)) (sgn n2 (numS s2))))]) (by kernel_rfl) ?_ ?_ (by simp[noW_zRat]) (by simp) (by kernel_rfl)
 ·exact keeps_pick (by simp[IntP.keeps,RatM.keeps])
 ·refine⟨fun f w1=>by go_simp,?_⟩
  repeat (refine⟨_,fun f w1 h1=>by(have d0:=ct h1 hWs e0; have d1:=ct h1 hWs e1; have d2:=ct h1 hWs e2; have d3:=ct h1 hWs e3; go_simp; rfl),?_⟩)
  simp only[Act.put,nrA,nrB,nrC,Nat.reduceAdd]
  refine⟨fun f w1 A1 k1 hA hN hd K hK=>by
   go_simp
   refine(xnumber_any n1 s1 h1 w1).mono ?_
   rintro e w' ⟨v,rfl,hn⟩
   exact hK _ _ hn.1 (hn.2 A1 hA),?_⟩
  repeat (refine⟨_,fun f w1 h1=>by(have d0:=ct h1 hWs e0; have d1:=ct h1 hWs e1; have d2:=ct h1 hWs e2; have d3:=ct h1 hWs e3; go_simp; rfl),?_⟩)
  simp only[Act.put,nrA,nrB,nrC,Nat.reduceAdd]
  refine⟨fun f w1 A1 k1 hA hN hd K hK=>by
   go_simp
   refine(xnumber_any n2 s2 h2 w1).mono ?_
   rintro e w' ⟨v,rfl,hn⟩
   exact hK _ _ hn.1 (hn.2 A1 hA),?_⟩
  simp only[Act.put,nrA,nrB,nrC,Nat.reduceAdd]
  refine⟨fun f w1 A1 m1 k1 hA hN hAm hm0 e hz hd K hK=>by
   simp only[e] at hK ⊢
   have i1:IntP (sgn n1 (numS s1)) (f 3) w1 A1:=hd 3 (by simp)
   have i2:IntP (sgn n2 (numS s2)) (f 6) w1 A1:=hd 6 (by simp)
   go_simp
   refine(SetFrac_any m1 _ _ _ HZ.out _ _ A1 w1 hz (by decide) noW_zRat i1 i2 HL.out.1 HL.out.2).mono ?_
   rintro e w' ⟨rfl,hp⟩
   exact hK _ w' hp.1 (hp.ratM hm0 hA),?_⟩
  intro f w1 k1 hF
  have i1:RatM W.heap.size (Rat.divInt (sgn n1 (numS s1)) (sgn n2 (numS s2))) (f 7) w1 NoA:=hF.2
  clear hF
  simp only[Act.put,nrA,nrB,nrC]
  generalize f 3=v3
  generalize f 6=v6
  generalize f 7=v7 at *
  have hbw:Below W.heap.size W w1:=br.drew.trans k1
  have hn:=i1.new (hB.trans (hbw.mono hB.size)) hB.size
  have HN:=Lib.hid hn
  clear hn i1
  go_wp2
  go_ret
  exact⟨v7,rfl,HN.out⟩
end Go.Proofs.YthklnbaddobieaaGreat
namespace Go.Proofs.YthklnbaddobieaaGreat
open Go.RowKit Tr
theorem xback_any(z:Int)(vx:Value)(A:Nat→Prop)(w:World)(hx:IntP z vx w A)(hn:(words z.natAbs).length<274877906944) :
  Calls Tryz.prog 117 #[vx] w fun e w'=>e=.returned (encZ z)∧Below w.heap.size w w':=by
 have hal:Below w.heap.size w (w.alloc (.cells #[.bool false,.string ⟨#[]⟩] 23)):=br.alloc (Nat.le_refl _) _
 obtain⟨sg,hsg⟩:∃ sg,sg=z.sign:=⟨_,rfl⟩
 have HS:=Lib.hid (Sign_any z vx A _ (hx.below hal))
 have HB:=Lib.hid (Bytes_any z vx A _ (hx.below hal) hn)
 rw[←hsg] at HS
 have HG:Hid (decide (sg<0)=decide (z<0)):=Lib.hid (by rw[hsg,sign_lt])
 clear hsg hx hal
 go_enter Tryz.func117,Tryz.ntmps117
 go_wp2_with fail
 refine HS.out.mono ?_
 rintro e w0 ⟨rfl,rfl⟩
 go_wp2_with fail
 refine HB.out.mono ?_
 rintro e w1 ⟨v,rfl,hv,hb⟩
 obtain⟨e0,e1,f0,f1⟩:=new_two w _ _ _ hb
 have hr:=run_conv_str w1 v _ hv
 have hbw:Below w.heap.size w w1:=(br.alloc (Nat.le_refl _) _).trans (hb.mono (by simp))
 obtain⟨st,hst⟩:∃ st,st=strN z.natAbs:=⟨_,rfl⟩
 rw[←hst] at hr
 have HST:=Lib.hid hst
 clear hb hv hst HS HB
 go_wp2_with fail
 refine bodyPost_ret (v:=.agg #[.bool (decide (sg<0)),.string st]) (by simp[results,Tryz.results117,go_sem,e0,e1]) rfl ⟨?_,?_⟩
 ·rw[HG.out,HST.out]; rfl
 ·exact((hbw.setCell (p:=⟨w.heap.size,0,none⟩) (Nat.le_refl _) _).setCell (p:=⟨w.heap.size,1,none⟩) (Nat.le_refl _) _)
theorem cell_alloc_lt{X:World}{o:Obj}{n i:Nat}(h:n<X.heap.size):(X.alloc o).cell? ⟨n,i,none⟩=X.cell? ⟨n,i,none⟩ :=
 ((Below.refl X.heap.size X).alloc (Nat.le_refl _) o).cell (p:=⟨n,i,none⟩) h
theorem setCell_size(X:World)(a:Addr)(v:Value):(X.setCell a v).heap.size=X.heap.size:=by simp[World.setCell]
set_option maxRecDepth 100000 in
theorem XFrac_any(q:Rat)(u:Value)(A:Nat→Prop)(w:World)(hx:RatP q u w A)(hl:RL q 137438953472) :
  Calls Tryz.prog 56 #[u] w fun e w'=>e=.returned (.tuple #[outF q,.int .i64 (outC q)])∧Below w.heap.size w w':=by
 have hal:Below w.heap.size w (w.alloc (.cells #[.bool false,.string ⟨#[]⟩,.bool false,.string ⟨#[]⟩] 25)):=br.alloc (Nat.le_refl _) _
 have hln:(words q.num.natAbs).length<274877906944:=by have:=hl.1; omega
 have hld:(words (q.den:Int).natAbs).length<274877906944:=by have:=hl.2; simp; omega
 have HL:=Lib.hid (And.intro hln hld)
 have HX:=Lib.hid (hx.below hal)
 have HN:=Lib.hid (Num_any q u A _ HX.out hl)
 have HAL:=Lib.hid hal
 clear hx hal hln hld
 go_enter Tryz.func56,Tryz.ntmps56
 go_wp2_with fail
 refine HN.out.mono ?_
 rintro e w1 ⟨v1,rfl,hn1⟩
 have HK:=Lib.hid (xback_any q.num v1 NoA w1 (hn1.2 NoA (rcv_noA _)) HL.out.1)
 go_wp2_with fail
 refine HK.out.mono ?_
 rintro e w2 ⟨rfl,hb2⟩
 have HD:=Lib.hid (Denom_any q u A w2 ((HX.out.below hn1.1).below hb2) hl)
 go_wp2_with fail
 refine HD.out.mono ?_
 rintro e w3 ⟨v3,rfl,hn3⟩
 have HK2:=Lib.hid (xback_any q.den v3 NoA w3 (hn3.2 NoA (rcv_noA _)) HL.out.2)
 go_wp2_with fail
 refine HK2.out.mono ?_
 rintro e w4 ⟨rfl,hb4⟩
 have hb14:=hn1.1.trans ((hb2.trans ((hn3.1.trans (hb4.mono hn3.1.size)).mono hb2.size)).mono hn1.1.size)
 obtain⟨c0,c1,c2,c3,f0,f1,f2,f3⟩:=new_four w _ _ _ _ _ hb14
 have hlt:w.heap.size<w4.heap.size:=by have:=hb14.size; simp at this; omega
 obtain⟨b1,hb1⟩:∃ b1,b1=decide (q.num<0):=⟨_,rfl⟩
 obtain⟨t1,ht1⟩:∃ t1,t1=strN q.num.natAbs:=⟨_,rfl⟩
 obtain⟨t2,ht2⟩:∃ t2,t2=strN q.den:=⟨_,rfl⟩
 have ez1:encZ q.num=.agg #[.bool b1,.string t1]:=by rw[hb1,ht1]; rfl
 have ez2:encZ (q.den:Int)=.agg #[.bool false,.string t2]:=by rw[ht2]; unfold encZ; simp
 have HG:=Lib.hid (show encF q=.agg #[.bool b1,.string t1,.bool false,.string t2] by unfold encF; rw[hb1,ht1,ht2])
 have HT:=Lib.hid (And.intro ht1 (And.intro ht2 (HAL.out.trans (hb14.mono (by simp)))))
 rw[ez1,ez2]
 have HZ:=Lib.hid (fun(h:¬ShortF q)=>show zF=outF q∧(4:Int)=outC q by unfold outF outC; rw[if_neg h,if_neg h]; exact⟨rfl,rfl⟩)
 have HY:=Lib.hid (fun(h:ShortF q)=>show encF q=outF q∧(0:Int)=outC q by unfold outF outC; rw[if_pos h,if_pos h]; exact⟨rfl,rfl⟩)
 clear hn1 hb2 hn3 hb4 hb14 hb1 ht1 ht2 ez1 ez2 HK HK2 HD HN HAL HX
 by_cases g1:(1024:Int)<(t1.size:Int)
 ·have HNO:=Lib.hid (show ¬ShortF q from fun h=>by have h1:=h.1; rw[←HT.out.1] at h1; omega)
  go_wp2_with fail
  refine bodyPost_ret (v:=.tuple #[zF,.int .i64 4]) (by unfold zF; simp[results,Tryz.results56,go_sem,c0,c1,c2,c3,hlt,cell_alloc_lt]) rfl ⟨by rw[(HZ.out HNO.out).1,(HZ.out HNO.out).2],?_⟩
  exact Below.alloc ((((HT.out.2.2.setCell (p:=⟨w.heap.size,0,none⟩) (Nat.le_refl _) _).setCell (p:=⟨w.heap.size,1,none⟩) (Nat.le_refl _) _).setCell (p:=⟨w.heap.size,2,none⟩) (Nat.le_refl _) _).setCell (p:=⟨w.heap.size,3,none⟩) (Nat.le_refl _) _) (by simp only[setCell_size]; omega) _
 ·by_cases g2:(1024:Int)<(t2.size:Int)
  ·have HNO:=Lib.hid (show ¬ShortF q from fun h=>by have h2:=h.2; rw[←HT.out.2.1] at h2; omega)
   go_wp2_with fail
   refine bodyPost_ret (v:=.tuple #[zF,.int .i64 4]) (by unfold zF; simp[results,Tryz.results56,go_sem,c0,c1,c2,c3,hlt,cell_alloc_lt]) rfl ⟨by rw[(HZ.out HNO.out).1,(HZ.out HNO.out).2],?_⟩
   exact Below.alloc ((((HT.out.2.2.setCell (p:=⟨w.heap.size,0,none⟩) (Nat.le_refl _) _).setCell (p:=⟨w.heap.size,1,none⟩) (Nat.le_refl _) _).setCell (p:=⟨w.heap.size,2,none⟩) (Nat.le_refl _) _).setCell (p:=⟨w.heap.size,3,none⟩) (Nat.le_refl _) _) (by simp only[setCell_size]; omega) _
  ·have HYES:=Lib.hid (show ShortF q from⟨by rw[←HT.out.1]; omega,by rw[←HT.out.2.1]; omega⟩)
   go_wp2_with fail
   refine bodyPost_ret (v:=.tuple #[.agg #[.bool b1,.string t1,.bool false,.string t2],.int .i64 0]) (by simp[results,Tryz.results56,go_sem,c0,c1,c2,c3,hlt,cell_alloc_lt]) rfl ⟨by rw[←HG.out,(HY.out HYES.out).1,(HY.out HYES.out).2],?_⟩
   exact Below.alloc ((((HT.out.2.2.setCell (p:=⟨w.heap.size,0,none⟩) (Nat.le_refl _) _).setCell (p:=⟨w.heap.size,1,none⟩) (Nat.le_refl _) _).setCell (p:=⟨w.heap.size,2,none⟩) (Nat.le_refl _) _).setCell (p:=⟨w.heap.size,3,none⟩) (Nat.le_refl _) _) (by simp only[setCell_size]; omega) _
end Go.Proofs.YthklnbaddobieaaGreat
namespace Go.Proofs.YthklnbaddobieaaGreat
open Go.RowKit Tr
end Go.Proofs.YthklnbaddobieaaGreat
namespace Go.Proofs.YthklnbaddobieaaGreat
open Go.RowKit Tr
def encG(a b:Rat):Value:=.agg #[.bool (decide (a.num<0)),.string (strN a.num.natAbs),.bool false,.string (strN a.den),.bool (decide (b.num<0)),.string (strN b.num.natAbs),.bool false,.string (strN b.den)]
end Go.Proofs.YthklnbaddobieaaGreat
namespace Go.Proofs.YthklnbaddobieaaGreat
open Go.RowKit Tr
end Go.Proofs.YthklnbaddobieaaGreat
namespace Go.Proofs.YthklnbaddobieaaGreat
open Go.RowKit Tr
def PP(a b c d:Rat):Fact:=fun v w A=>∃ u1 u2 u3 u4,v=.agg #[u1,u2,u3,u4]∧RatP a u1 w A∧RatP b u2 w A∧RatP c u3 w A∧RatP d u4 w A
theorem PP.keeps(a b c d:Rat):(PP a b c d).Keeps:=fun v w w' A A' hs hk ⟨u1,u2,u3,u4,h0,h1,h2,h3,h4⟩=>⟨u1,u2,u3,u4,h0,RatP.keeps a _ _ _ _ _ hs hk h1,RatP.keeps b _ _ _ _ _ hs hk h2,RatP.keeps c _ _ _ _ _ hs hk h3,RatP.keeps d _ _ _ _ _ hs hk h4⟩
end Go.Proofs.YthklnbaddobieaaGreat
namespace Go.Proofs.YthklnbaddobieaaGreat
open Go.RowKit Tr
structure QC where
 re:Rat
 im:Rat
 deriving DecidableEq
namespace QC
instance:Mul QC:=⟨fun x y=>⟨x.re*y.re - x.im*y.im,x.re*y.im+x.im*y.re⟩⟩
instance:Add QC:=⟨fun x y=>⟨x.re+y.re,x.im+y.im⟩⟩
instance:Sub QC:=⟨fun x y=>⟨x.re - y.re,x.im - y.im⟩⟩
end QC
def ZL(z:QC)(k:Nat):Prop:=RL z.re k∧RL z.im k
theorem ZL.mono{z:QC}{k l:Nat}(h:ZL z k)(hl:k≤l):ZL z l:=⟨h.1.mono hl,h.2.mono hl⟩
def CQ(z:QC):Fact:=CP z.re z.im
theorem CQ.keeps(z:QC):(CQ z).Keeps:=CP.keeps _ _
def PQ(x y:QC):Fact:=PP x.re x.im y.re y.im
theorem PQ.keeps(x y:QC):(PQ x y).Keeps:=PP.keeps _ _ _ _
end Go.Proofs.YthklnbaddobieaaGreat
namespace Go.Proofs.YthklnbaddobieaaGreat
open Go.RowKit Tr
end Go.Proofs.YthklnbaddobieaaGreat
namespace Go.Proofs.YthklnbaddobieaaGreat
open Go.RowKit Tr
instance:Div QC:=⟨fun x y=>⟨(x.re*y.re - x.im*(-y.im))*(y.re*y.re+y.im*y.im)⁻¹,(x.re*(-y.im)+x.im*y.re)*(y.re*y.re+y.im*y.im)⁻¹⟩⟩
end Go.Proofs.YthklnbaddobieaaGreat
namespace Go.Proofs.YthklnbaddobieaaGreat
open Go.RowKit Tr
end Go.Proofs.YthklnbaddobieaaGreat
namespace Tr
open Go Go.RowKit Go.Proofs.YthklnbaddobieaaGreat
theorem ZL.r{z:QC}{k:Nat}(h:ZL z k):RL z.re k:=h.1
theorem ZL.i{z:QC}{k:Nat}(h:ZL z k):RL z.im k:=h.2
end Tr
namespace Go.Proofs.YthklnbaddobieaaGreat
open Go.RowKit Tr
structure RawG where
 (n1 n2 n3 n4:Bool)
 (s1 s2 s3 s4:ByteArray)
def RawG.val(g:RawG):Value:=.agg #[.bool g.n1,.string g.s1,.bool g.n2,.string g.s2,.bool g.n3,.string g.s3,.bool g.n4,.string g.s4]
def RawG.cells(g:RawG):List GF:=[gx (.bool g.n1),gx (.string g.s1),gx (.bool g.n2),gx (.string g.s2),gx (.bool g.n3),gx (.string g.s3),gx (.bool g.n4),gx (.string g.s4)]
structure RawP where
 i:Bool
 g:RawG
def RawP.val(p:RawP):Value:=.agg #[.bool p.i,.bool p.g.n1,.string p.g.s1,.bool p.g.n2,.string p.g.s2,.bool p.g.n3,.string p.g.s3,.bool p.g.n4,.string p.g.s4]
def RawP.cells(p:RawP):List GF:=gx (.bool p.i) :: p.g.cells
def pA(i:Nat):List AC:=[.sym i,.sym (i+1),.sym (i+2),.sym (i+3),.sym (i+4),.sym (i+5),.sym (i+6),.sym (i+7),.sym (i+8)]
end Go.Proofs.YthklnbaddobieaaGreat
namespace Go.Proofs.YthklnbaddobieaaGreat
open Go.RowKit Tr
structure RawS where
 x:RawG
 y:RawG
def RawS.val(s:RawS):Value:=.agg #[.bool s.x.n1,.string s.x.s1,.bool s.x.n2,.string s.x.s2,.bool s.x.n3,.string s.x.s3,.bool s.x.n4,.string s.x.s4,.bool s.y.n1,.string s.y.s1,.bool s.y.n2,.string s.y.s2,.bool s.y.n3,.string s.y.s3,.bool s.y.n4,.string s.y.s4]
def RawS.cells(s:RawS):List GF:=s.x.cells++s.y.cells
end Go.Proofs.YthklnbaddobieaaGreat
namespace Go.Proofs.YthklnbaddobieaaGreat
open Go.RowKit Tr
end Go.Proofs.YthklnbaddobieaaGreat
namespace Go.Proofs.YthklnbaddobieaaGreat
open Go.RowKit Tr
end Go.Proofs.YthklnbaddobieaaGreat
