/- Laws for the walk. -/
import Derived.Test.YthklnbaddobieaaGreatUax
set_option linter.unusedVariables false
set_option maxHeartbeats 4000000
namespace Tr
theorem slong_start{a b M m D k:Nat}(hM:(words a).length=M)(hm:(words b).length=m)(hm0:1≤m∧m≤M)(hD:D=M+2 - m):a*2 ^ k / 4294967296 ^ D<b*2 ^ k:=by
 have h1:=long_start (D:=M+1 - m) (k:=k) hM hm hm0 rfl
 refine Nat.lt_of_le_of_lt ?_ h1
 exact Nat.div_le_div_left (Nat.pow_le_pow_right (by decide) (by omega)) (Nat.pow_pos (by decide))
theorem sstep_end{W0 W Q V P c b:Nat}(h:W+Q*V=W0+P*(c+b))(hQ:Q=W0 / V)(hV:0<V)(hlt:W<P):W=W0 % V:=by
 have h1:=Nat.div_add_mod W0 V
 have h2:=Nat.mod_lt W0 hV
 rw[←hQ,Nat.mul_comm] at h1
 have hc:c+b=0:=by
  rcases Nat.eq_zero_or_pos (c+b) with h0|h0
  ·exact h0
  ·have:P*1≤P*(c+b):=Nat.mul_le_mul_left _ h0
   omega
 rw[hc,Nat.mul_zero] at h
 omega
theorem sguess_mul{Q g V W:Nat}(hV:0<V)(hQ:W / V=Q):g*V≤W↔g≤Q:=by
 rw[←hQ,Nat.le_div_iff_mul_le hV]
end Tr
namespace Go.Proofs.YthklnbaddobieaaGreat
open Go.RowKit Tr
set_option maxRecDepth 100000 in
theorem sdivided_long(a b M m:Nat)(hM:(words a).length=M)(hm:(words b).length=m)(hm2:2≤m)(hba:b≤a)(pa pb:Option Addr)(ca cb:Nat)(w:World)(ha:WSl w (.slice pa M ca) (words a))(hb:WSl w (.slice pb m cb) (words b))(hn:M<274877906944) :
  Calls Tryz.prog 170 #[.slice pa M ca,.slice pb m cb] w fun e w'=>∃ v1 v2,e=.returned (.tuple #[v1,v2])∧WSl w' v1 (words (a / b))∧WSl w' v2 (words (a % b))∧Below w.heap.size w w':=by
 have H:=Lib.hid (And.intro hM hm)
 have hmM:m≤M:=by
  rcases Nat.lt_or_ge M m with h|h
  ·have:=cmp_shorter (a:=a) (b:=b) (by omega); omega
  ·exact h
 have hun:=fun w=>sunder_any a b (.slice pa M ca) (.slice pb m cb) w
 have HC:=Lib.hid (cmp_ge hba)
 have HA:=Lib.hid (And.intro ha hb)
 have ht0:=top_word hm (by omega)
 clear hM hm ha hb
 go_enter Tryz.func170,Tryz.ntmps170
 obtain⟨z,hz⟩:∃ z,z=cmpZ a b:=⟨_,rfl⟩
 have hz0:¬z<0:=by rw[hz]; exact HC.out
 have hm1:((m:Int) == 1)=false:=by simp; omega
 rw[←hz] at hun
 have HUN:=Lib.hid hun
 clear hz hun
 obtain⟨bt,hbt⟩:∃ bt,bt=(words b)[m - 1]?.getD 0:=⟨_,rfl⟩
 rw[←hbt] at ht0
 have HBT:=Lib.hid (And.intro hbt ht0)
 clear hbt ht0
 go_wp2_with (first|(go_at_call 171; refine(HUN.out _ HA.out.1 HA.out.2 (by have:=H.out; omega)).mono ?_; rintro e w' ⟨rfl,d,rfl⟩))
 have HB0:=Lib.hid (below_drewN (Below.refl w.heap.size w) d)
 refine(sbits_row b m H.out.2 (by omega) _ _ (HA.out.2.drewN d) (by omega)).mono ?_
 rintro e w1 ⟨⟨k,hk0,hk32,hk1,hk2,rfl⟩,rfl⟩
 rw[←HBT.out.1] at hk1 hk2
 obtain⟨s,hs⟩:∃ s,s=32 - k:=⟨_,rfl⟩
 obtain⟨N0,hN0⟩:∃ N0,N0=32*(m - 1)+k:=⟨_,rfl⟩
 rw[←hN0]
 have es:(32:Int)*(m:Int) - (N0:Int)=(s:Int):=by omega
 have hpow:2 ^ k*2 ^ s=4294967296:=by rw[←Nat.pow_add,show k+s=32 by omega]
 have hb1:bt*2 ^ s<4294967296:=by rw[←hpow]; exact Nat.mul_lt_mul_of_pos_right hk2 (Nat.two_pow_pos s)
 have hnl:=Lib.hid (norm_len (k:=s) H.out.2 (by omega) HBT.out.1 hb1 (by omega))
 have hul:=Lib.hid (up_len (k:=s) H.out.1 (by omega))
 have hs31:s≤31:=by omega
 have hN0b:N0<17592186044416:=by omega
 clear hk1 hk2 hpow hb1 hs hN0 hk0 hk32
 go_wp2_with fail
 refine(sup_any (words b) s _ _ (wok_words b) (HA.out.2.drewN d) (by have:=H.out; omega) (by omega)).mono ?_
 rintro e w1 ⟨v,rfl,hv,hb1⟩
 rw[wv_words] at hv
 obtain⟨V,hV⟩:∃ V,V=b*2 ^ s:=⟨_,rfl⟩
 rw[←hV] at hv hnl
 obtain⟨pv,cv,rfl,hcv,hrow⟩:=hv
 rw[hnl.out] at hcv ⊢
 have HV:=Lib.hid (And.intro hV (And.intro hcv hrow))
 have hb1':=HB0.out.trans (hb1.mono (by simp))
 clear hV hcv hrow
 have hmk:=run_mk (M+2) (by omega)
 have en:((M+2:Nat):Int)=(M:Int)+2:=by omega
 rw[en] at hmk
 clear en
 go_wp2_with fail
 have hb1u:=hb1'.alloc hb1'.size (Obj.cells (encW (List.replicate (M+2) 0)) 192)
 refine(sup_any (words a) s _ _ (wok_words a) (HA.out.1.below hb1u) (by have:=H.out; omega) (by omega)).mono ?_
 rintro e w2 ⟨v,rfl,hv,hb2⟩
 rw[wv_words] at hv
 obtain⟨A,hA'⟩:∃ A,A=a*2 ^ s:=⟨_,rfl⟩
 rw[←hA'] at hv hul
 obtain⟨pA,cA,rfl,hcA,hrowA⟩:=hv
 obtain⟨n2,hn2⟩:∃ n2,(words A).length=n2:=⟨_,rfl⟩
 rw[hn2] at hrowA hcA hul ⊢
 have hne:words A≠[]:=by
  intro h
  have h1:=words_eq_nil.1 h
  have h2:0<a:=by
   rcases Nat.eq_zero_or_pos a with h0|h0
   ·have h3:=H.out; rw[show b=0 by omega,words_zero] at h3; simp at h3; omega
   ·exact h0
  have:=Nat.mul_pos h2 (Nat.two_pow_pos s)
  omega
 obtain⟨bA,oA,rfl,hbA,hcellA⟩:=hrowA hne
 have hu2:Blk w2 w1.heap.size (List.replicate (M+2) 0):=(Blk.new w1 _).below hb2
 have hb2':=hb1u.trans (hb2.mono hb1u.size)
 have HAA:=Lib.hid (And.intro hA' hn2)
 have HUL:Hid (n2≤M+1):=Lib.hid hul.out
 have hmn:Nat.min n2 (M+2)=n2:=Nat.min_eq_left (by have:=HUL.out; omega)
 have hcs1:((words A).map fun x:Nat=>Value.int .u32 (x:Int)).length=Nat.min n2 (M+2):=by rw[List.length_map,hn2,hmn]
 have hcs2:∀(j:Nat) (v:Value),((words A).map fun x:Nat=>Value.int .u32 (x:Int))[j]?=some v→w2.cell? ((⟨bA,oA,none⟩:Addr).add j)=some v:=fun j v hj=>by
  rw[List.getElem?_map] at hj
  obtain⟨y,hy,rfl⟩:=Option.map_eq_some_iff.1 hj
  have hlt:=(List.getElem?_eq_some_iff.1 hy).1
  have h1:=hcellA j (by omega)
  rw[hy] at h1
  rw[Addr.add_lit]; simpa using h1
 have HCS:=Lib.hid (And.intro hcs1 hcs2)
 clear hA' hn2 hul hcs1 hcs2 hrowA hcellA hne hmn
 have hcs4:∀ v∈((words A).map fun x:Nat=>Value.int .u32 (x:Int)),v.oneCell'=true:=by intro v hv; obtain⟨y,_,rfl⟩:=List.mem_map.1 hv; rfl
 have hcs3:0+((words A).map fun x:Nat=>Value.int .u32 (x:Int)).length≤(encW (List.replicate (M+2) 0)).size:=by rw[HCS.out.1,size_encW,List.length_replicate,Nat.zero_add]; exact Nat.min_le_right _ _
 have hcp:=run_copy_row (P:=Tryz.prog) w2 129 129 3 192 w1.heap.size 0 (M+2) (M+2) ⟨bA,oA,none⟩ n2 cA (encW (List.replicate (M+2) 0)) 192 _ Tryz.underlying129 size_u32 hu2 HCS.out.1 HCS.out.2 hcs3 hcs4
 rw[copy_enc] at hcp
 obtain⟨w3,hw3⟩:∃ w3,w3=w2.setRow w1.heap.size (encW (words A++List.replicate (M+2 - (words A).length) 0)):=⟨_,rfl⟩
 rw[←hw3] at hcp
 have hu3:Blk w3 w1.heap.size (words A++List.replicate (M+2 - (words A).length) 0):=by rw[hw3]; exact hu2.setRow rfl
 have hb3':Below w.heap.size w w3:=by rw[hw3]; exact below_setRow hb2' hb1'.size _
 have hv3:Row w3 pv (words V):=by
  intro hne
  obtain⟨b5,o5,h1,h2,h3⟩:=HV.out.2.2 hne
  refine⟨b5,o5,h1,by rw[hw3]; have:=hb2.size; simp[World.setRow] at this ⊢; omega,fun j hj=>?_⟩
  have hb13:Below w1.heap.size w1 w3:=by rw[hw3]; exact below_setRow ((br.alloc (Nat.le_refl _) _).trans (hb2.mono (by simp))) (Nat.le_refl _) _
  exact(hb13.cell (p:=⟨b5,o5+j,none⟩) h2).trans (h3 j (by have:=hnl.out; omega))
 clear hcs3 hcs4 hw3
 have hmk2:=run_mk (M+2 - m) (by omega)
 have en2:((M+2 - m:Nat):Int)=(M:Int)+2 - (m:Int):=by omega
 rw[en2] at hmk2
 clear en2
 go_wp2_with fail
 obtain⟨u0,hu0⟩:∃ u0,u0=words A++List.replicate (M+2 - (words A).length) 0:=⟨_,rfl⟩
 rw[←hu0] at hu3
 have lu0:u0.length=M+2:=by rw[hu0]; have:=HAA.out.2; have:=HUL.out; simp; omega
 have wu0:wv u0=A:=by rw[hu0,wv_append,wv_replicate,wv_words]; simp
 have ou0:WOk u0:=by rw[hu0,wok_append]; exact⟨wok_words A,wok_replicate _⟩
 have H0:=Lib.hid (And.intro lu0 (And.intro wu0 ou0))
 clear hu0 lu0 wu0 ou0 hcp HCS
 obtain⟨bu,hbu⟩:∃ bu,bu=w1.heap.size:=⟨_,rfl⟩
 rw[←hbu] at hu3 ⊢
 have HBU:=Lib.hid hbu
 have hsz1:=hu3.lt
 clear hbu
 obtain⟨D,hD⟩:∃ D,M+2 - m=D:=⟨_,rfl⟩
 have hDm:D+m=M+2:=by omega
 rw[hD] at ⊢
 clear hD
 have hq4:=Blk.new w3 (List.replicate D 0)
 obtain⟨bq,hbq⟩:∃ bq,bq=w3.heap.size:=⟨_,rfl⟩
 have hb4:Below w3.heap.size w3 (w3.alloc (.cells (encW (List.replicate D 0)) 192)):=br.alloc (Nat.le_refl _) _
 have hu4:=hu3.below hb4
 have hb4':=hb3'.trans (hb4.mono hb3'.size)
 have hv4:Row (w3.alloc (.cells (encW (List.replicate D 0)) 192)) pv (words V):=by
  intro hne
  obtain⟨b5,o5,h1,h2,h3⟩:=hv3 hne
  exact⟨b5,o5,h1,by simp; omega,fun j hj=>(hb4.cell (p:=⟨b5,o5+j,none⟩) h2).trans (h3 j hj)⟩
 have hstart:Hid (wv (u0.drop D)<V):=Lib.hid (by
  have h1:D≤u0.length:=by rw[H0.out.1]; omega
  rw[←wv_div H0.out.2.2 D h1,H0.out.2.1,HAA.out.1,HV.out.1]
  exact slong_start H.out.1 H.out.2 (by omega) (by omega))
 rw[←hbq] at hq4 ⊢
 have HBQ:=Lib.hid hbq
 have hsz2:bu<bq:=by omega
 clear hb4 hv3 hbq
 obtain⟨w4,hw4⟩:∃ w4,w4=w3.alloc (.cells (encW (List.replicate D 0)) 192):=⟨_,rfl⟩
 rw[←hw4] at hq4 hu4 hb4' hv4 ⊢
 clear hw4 hmk2 hu3
 have hVp:Hid (0<V):=Lib.hid (by
  rcases Nat.eq_zero_or_pos V with h0|h0
  ·have h1:=hnl.out; rw[h0,words_zero] at h1; simp at h1; omega
  ·exact h0)
 have hbuw:Hid (w.heap.size≤bu):=Lib.hid (by rw[HBU.out]; exact hb1'.size)
 have hpvu:Hid (∀ b off,pv=some ⟨b,off,none⟩→b<bu):=Lib.hid (fun b off e=>by
  obtain⟨b6,o6,h1,h2,h3⟩:=HV.out.2.2 (by intro h; have:=hnl.out; rw[h] at this; simp at this; omega)
  rw[h1] at e; cases e; have:=HBU.out; omega)
 have hcv:m≤cv:=HV.out.2.1
 go_loopw [13,14,15,16,17,18,19] (fun j _ _ _ _ _ _ wr=>∃(i:Nat) (cur quo:List Nat),i≤D∧j=.int .i64 ((i:Int) - 1)∧Hid (cur.length=M+2)∧WOk cur∧Hid (quo.length=D)∧WOk quo∧Hid (∀ t,t<i→cur[t]?=u0[t]?)∧Hid (wv (cur.drop i)=wv (u0.drop i) % V)∧Hid (wv (quo.drop i)=wv (u0.drop i) / V)∧Blk wr bu cur∧Blk wr bq quo∧Hid (Row wr pv (words V))∧Below w.heap.size w wr)
  (fun j _ _ _ _ _ _ _=>(intOf j+1).toNat)
 case atStart =>
  refine⟨D,u0,List.replicate D 0,Nat.le_refl _,?_,Lib.hid H0.out.1,H0.out.2.2,Lib.hid (by simp),wok_replicate _,Lib.hid (fun _ _=>rfl),Lib.hid (Nat.mod_eq_of_lt hstart.out).symm,Lib.hid ?_,hu4,hq4,Lib.hid hv4,hb4'⟩
  ·congr 1; omega
  ·rw[List.drop_eq_nil_of_le (by simp),Nat.div_eq_of_lt hstart.out]; rfl
 case round =>
  obtain⟨i,cur,quo,hi,rfl,hlc,oc,hlq,oq,hsame,hmod,hdiv,hbc,hbq4,hrv,hB4⟩:=hrel
  cases i with
  | zero =>
   have hcv2:=hmod.out
   have hqv:=hdiv.out
   rw[List.drop_zero,List.drop_zero,H0.out.2.1] at hcv2 hqv
   have eA:A % V=a % b*2 ^ s:=by rw[HAA.out.1,HV.out.1,Nat.mul_mod_mul_right]
   have eQ:A / V=a / b:=by rw[HAA.out.1,HV.out.1,Nat.mul_div_mul_right _ _ (Nat.two_pow_pos s)]
   rw[eA] at hcv2
   rw[eQ] at hqv
   have wq:WSl wr (.slice (some ⟨bq,0,none⟩) D D) quo:=⟨_,D,by rw[hlq.out],by rw[hlq.out]; exact Nat.le_refl _,hbq4.row⟩
   have wu:WSl wr (.slice (some ⟨bu,0,none⟩) (M+2) (M+2)) cur:=⟨_,M+2,by rw[hlc.out],by rw[hlc.out]; exact Nat.le_refl _,hbc.row⟩
   have cd1:=scut_any quo _ wr oq wq (by have:=hlq.out; omega)
   have cd2:=scut_any cur _ wr oc wu (by have:=hlc.out; omega)
   rw[hqv] at cd1
   rw[hcv2] at cd2
   have HC1:=Lib.hid cd1
   have HC2:=Lib.hid cd2
   have hl9:(words (a % b*2 ^ s)).length<549755813888:=by
    rw[←hcv2]
    exact Nat.lt_of_le_of_lt (words_length_le (wv_lt oc)) (by have:=hlc.out; omega)
   have hrt:=fun(w9:World) (v:Value) (h:WSl w9 v (words (a % b*2 ^ s)))=>sdown_any (words (a % b*2 ^ s)) s v w9 (wok_words _) h hl9 (by omega)
   rw[wv_words,Nat.mul_div_cancel _ (Nat.two_pow_pos s)] at hrt
   have HR:=Lib.hid hrt
   clear hrt cd1 cd2 hqv hcv2 eA eQ wq wu hl9
   rw[show(((0:Nat):Int) - 1)=-1 from rfl]
   go_wp2_with fail
   refine HC1.out.mono ?_
   rintro e w9 ⟨v1,rfl,hv1,rfl⟩
   go_wp2_with (first
    | (go_at_call 200; refine HC2.out.mono ?_; rintro e w9 ⟨v2,rfl,hv2,rfl⟩)
    | (go_at_call 175; refine(HR.out _ _ hv2).mono ?_; rintro e w9 ⟨v3,rfl,hv3,hb9⟩))
   go_ret2
   exact⟨_,_,rfl,hv1.below hb9,hv3,hB4.trans (hb9.mono hB4.size)⟩
  | succ i =>
   obtain⟨wo,rfl⟩:∃ wo:World,wo=wr:=⟨_,rfl⟩
   have ei:((i+1:Nat):Int) - 1=(i:Int):=by omega
   rw[ei]
   clear ei
   have hiM:i+m<M+2:=by omega
   have c5:=hbc.cell (i:=i+m) (by have:=hlc.out; omega)
   have c6:=hbc.cell (i:=i+m - 1) (by have:=hlc.out; omega)
   have bx1:cur[i+m]?.getD 0<4294967296:=wat_lt oc _
   have bx2:cur[i+m - 1]?.getD 0<4294967296:=wat_lt oc _
   obtain⟨x1,hx1⟩:∃ x1,x1=cur[i+m]?.getD 0:=⟨_,rfl⟩
   obtain⟨x2,hx2⟩:∃ x2,x2=cur[i+m - 1]?.getD 0:=⟨_,rfl⟩
   rw[←hx1] at c5 bx1
   rw[←hx2] at c6 bx2
   have hwt:=window_top (i:=i) hm2 oc (by have:=hlc.out; omega)
   rw[show wat cur (i+m)=x1 from hx1.symm,show wat cur (i+m - 1)=x2 from hx2.symm] at hwt
   have HWT:=Lib.hid hwt
   clear hwt hx1 hx2
   have hXV:Hid (wv (cur.drop (i+1))<V):=Lib.hid (by rw[hmod.out]; exact Nat.mod_lt _ hVp.out)
   have hVm:Hid (V<4294967296 ^ m):=Lib.hid (by have h1:=lt_words V; rwa[hnl.out] at h1)
   have HW:Hid (wv ((cur.drop i).take (m+1))=wat cur i+4294967296*wv (cur.drop (i+1))):=Lib.hid (window oc (by have:=hlc.out; omega) (Nat.lt_trans hXV.out hVm.out))
   obtain⟨b5,o5,hpv,hb5,hc5⟩:=hrv.out (by intro h; have:=hnl.out; rw[h] at this; simp at this; omega)
   have c8:=hc5 (m - 1) (by have:=hnl.out; omega)
   have hyt:=top_word hnl.out (by omega)
   obtain⟨y1,hy1⟩:∃ y1,y1=(words V)[m - 1]?.getD 0:=⟨_,rfl⟩
   rw[←hy1] at c8 hyt
   have hdt:=divisor_top hm2 hnl.out
   rw[show wat (words V) (m - 1)=y1 from hy1.symm] at hdt
   have HDT:=Lib.hid hdt
   clear hdt hc5 hy1 hb5
   subst hpv
   obtain⟨Q,hQ⟩:∃ Q,wv ((cur.drop i).take (m+1)) / V=Q:=⟨_,rfl⟩
   have hQ32:Q<4294967296:=by
    rw[←hQ,HW.out,Nat.div_lt_iff_lt_mul hVp.out]; exact long_lt (wat_lt oc i) hXV.out
   obtain⟨q1,hq1⟩:∃ q1,q1=(x1*4294967296+x2) / y1:=⟨_,rfl⟩
   have hQq:Q≤q1:=by
    obtain⟨ul,hul1,hul2⟩:=HWT.out
    obtain⟨vl,hvl1,hvl2⟩:=HDT.out
    rw[hq1,←hQ]
    exact est_start hul2 hul1 (wat_lt oc _) hvl2 hyt.1
   have hq64:q1<18446744073709551616:=by rw[hq1]; exact Nat.lt_of_le_of_lt (Nat.div_le_self _ _) (by omega)
   obtain⟨tp,htp⟩:∃ tp:Nat,tp=x1*4294967296+x2:=⟨_,rfl⟩
   have htp1:(x1:Int)*4294967296+(x2:Int)=(tp:Int):=by omega
   have htp2:tp<18446744073709551616:=by omega
   have hdv:(tp:Int) / (y1:Int)=(q1:Int):=by rw[hq1,←htp]; simp
   have HQ:=Lib.hid hQ
   have hyt1:=hyt.1
   have hyt2:=hyt.2
   have i8:(0:Int)<(y1:Int):=by omega
   have i9:((y1:Int) == 0)=false:=by simp; omega
   clear hq1 hQ htp hyt
   have i0:(0:Int)≤(i:Int)+(m:Int):=by omega
   have i1:(i:Int)+(m:Int)<(M:Int)+2:=by omega
   have i2:(0:Int)≤(i:Int)+(m:Int) - 1:=by omega
   have i3:(i:Int)+(m:Int) - 1<(M:Int)+2:=by omega
   have i4:((i:Int)+(m:Int)).toNat=i+m:=by omega
   have i5:((i:Int)+(m:Int) - 1).toNat=i+m - 1:=by omega
   have i6:(0:Int)≤(m:Int) - 1:=by omega
   have i7:((m:Int) - 1).toNat=m - 1:=by omega
   obtain⟨g0,hg0⟩:∃ g0,g0=min q1 4294967295:=⟨_,rfl⟩
   have hmn:min (q1:Int) 4294967295=(g0:Int):=by omega
   have hQg:Q≤g0:=by omega
   have hg32:g0<4294967296:=by omega
   clear hg0
   go_wp2_with fail
   go_quiet (fail)
   go_wp2_with fail
   have hb0:Below wo.heap.size wo (wo.drewN nq):=below_drewN br nq
   obtain⟨wd,hwd⟩:∃ wd,wd=wo.drewN nq:=⟨_,rfl⟩
   rw[←hwd] at hb0 ⊢
   clear hwd c5 c6 c8 hdv
   have HBC:=Lib.hid (And.intro hbc (And.intro hbq4 (And.intro hrv hB4)))
   clear hbc hbq4 hrv hB4
   go_loopw [15] (fun g wr2=>∃ g1:Nat,g=.int .u64 g1∧Q≤g1∧g1<4294967296∧Hid (Below wo.heap.size wo wr2)) (fun g _=>(intOf g).toNat)
   case atStart=>exact⟨g0,rfl,hQg,hg32,Lib.hid hb0⟩
   case round =>
    obtain⟨g1,rfl,hQg1,hg1,hbb⟩:=hrel
    have hfit:=sfits_row cur bu (M+2) i m g1 V _ hlc.out oc hnl.out (by omega) hg1 rfl (some ⟨b5,o5,none⟩) cv wr (HBC.out.1.below hbb.out) (WSl.below hbb.out ⟨_,cv,by rw[hnl.out],by rw[hnl.out]; exact hcv,HBC.out.2.2.1.out⟩) (by omega)
    have hdec:decide (g1*V≤wv ((cur.drop i).take (m+1)))=decide (g1≤Q):=by
     rw[decide_eq_decide]; exact sguess_mul hVp.out HQ.out
    rw[hdec] at hfit
    have HF:=Lib.hid hfit
    clear hfit hdec
    by_cases hgq:g1≤Q
    ·obtain rfl:g1=Q:=by omega
     have hd1:decide (g1≤g1)=true:=by simp
     rw[hd1] at HF
     have hbq:=HBC.out.2.1.below hbb.out
     have hbu:=HBC.out.1.below hbb.out
     have hrv:Hid (WSl wr (.slice (some ⟨b5,o5,none⟩) m cv) (words V)):=Lib.hid (WSl.below hbb.out ⟨some ⟨b5,o5,none⟩,cv,by rw[hnl.out],by rw[hnl.out]; exact hcv,HBC.out.2.2.1.out⟩)
     have hBw:=HBC.out.2.2.2.trans (hbb.out.mono HBC.out.2.2.2.size)
     clear HBC hbb
     go_wp2_with fail
     refine HF.out.mono ?_
     rintro e w9 ⟨rfl,hb9⟩
     have cq:=(hbq.below hb9).cell (i:=i) (by have:=hlq.out; omega)
     have fq:=(hbq.below hb9).frozen i
     have iR:(g1:Int) % 4294967296=(g1:Int):=by omega
     have hne9:Hid (∀ b off,(some ⟨b5,o5,none⟩:Option Addr)=some ⟨b,off,none⟩→b≠bq):=Lib.hid (fun b off e=>by have:=hpvu.out b off e; omega)
     have hB9:=(hBw.trans (hb9.mono hBw.size)).setCell (p:=⟨bq,i,none⟩) (by have:=hbuw.out; show w.heap.size≤bq; omega) (.int .u32 (g1:Int))
     have hu9:=((hbu.below hb9)).set_ne (C:=bq) (by omega) i (.int .u32 (g1:Int))
     have hq9:=(hbq.below hb9).set i g1
     have hv9:Hid (Row (w9.setCell ⟨bq,i,none⟩ (.int .u32 (g1:Int))) (some ⟨b5,o5,none⟩) (words V)):=Lib.hid (row_set_ne (by obtain⟨p,c,e,_,h⟩:=hrv.out.below hb9; cases e; exact h) hne9.out _ _)
     clear hb9 hbq hbu hBw hrv HF hne9
     go_wp2_with fail
     obtain⟨w8,hw8⟩:∃ x,x=w9.setCell ⟨bq,i,none⟩ (.int .u32 (g1:Int)):=⟨_,rfl⟩
     rw[←hw8] at hB9 hu9 hq9 hv9 ⊢
     clear hw8 cq fq iR
     have hlv:=Lib.hid (show(words V).length=m from hnl.out)
     go_loopw [16,17,18,19] (fun bo ca t_ _ wr=>∃(t bo' ca':Nat) (nx:List Nat),t≤m+1∧t_=.int .i64 t∧bo=.int .u64 bo'∧bo'≤1∧ca=.int .u64 ca'∧ca'<4294967296∧Hid (nx.length=M+2)∧WOk nx∧Hid (∀ j,j<i∨i+t≤j→nx[j]?=cur[j]?)∧Hid (wv ((nx.drop i).take t)+g1*wv ((words V).take t)=wv ((cur.drop i).take t)+4294967296 ^ t*(ca'+bo'))∧Blk wr bu nx∧Blk wr bq (quo.set i g1)∧Hid (Row wr (some ⟨b5,o5,none⟩) (words V))∧Below w.heap.size w wr)
      (fun _ _ t_ _ _=>m+1 - (intOf t_).toNat)
     case atStart =>
      exact⟨0,0,0,cur,Nat.zero_le _,rfl,rfl,by omega,rfl,by omega,hlc,oc,Lib.hid (fun _ _=>rfl),Lib.hid (by simp[wv]),hu9,hq9,hv9,hB9⟩
     case round =>
      obtain⟨t,bo,c9,nx,ht,rfl,rfl,hbo,rfl,hca,hln,on_,hout,hinv,hbn,hbq,hrv,hBn⟩:=hrel
      by_cases htm:t<m+1
      ·have cu:=hbn.cell (i:=t+i) (by have:=hln.out; omega)
       have fu:=hbn.frozen (t+i)
       obtain⟨x,hx⟩:∃ x,x=nx[t+i]?.getD 0:=⟨_,rfl⟩
       have bx:x<4294967296:=by rw[hx]; exact wat_lt on_ _
       rw[←hx] at cu
       have hxc:x=wat (cur.drop i) t:=by rw[hx,Nat.add_comm t i,hout.out _ (.inr (Nat.le_refl _)),wat_drop]; rfl
       obtain⟨v,hv⟩:∃ v,v=wat (words V) t:=⟨_,rfl⟩
       have bv:v<4294967296:=by rw[hv]; exact wat_lt (wok_words V) _
       have hat:=sat_any (words V) (.slice (some ⟨b5,o5,none⟩) m cv) t wr (wok_words V) ⟨some ⟨b5,o5,none⟩,cv,by rw[hlv.out],by rw[hlv.out]; exact hcv,hrv.out⟩
       rw[←hv] at hat
       have HAT:=Lib.hid hat
       obtain⟨p,hp⟩:∃ p,p=c9+g1*v:=⟨_,rfl⟩
       have hgv:g1*v≤4294967295*4294967295:=Nat.mul_le_mul (by omega) (by omega)
       have hp1:(c9:Int)+(g1:Int)*(v:Int)=(p:Int):=by rw[hp]; simp
       have hp2:p<18446744073709551616:=by omega
       have hxy:=word_mul hQ32 bv
       obtain⟨y,hy⟩:∃ y,y=p % 4294967296:=⟨_,rfl⟩
       have hy1:(p:Int) % 4294967296=(y:Int):=by omega
       have hy2:y<4294967296:=by omega
       obtain⟨c8,hc8⟩:∃ c8,c8=p / 4294967296:=⟨_,rfl⟩
       have hc1:(p:Int) / 4294967296=(c8:Int):=by omega
       have hc2:c8<4294967296:=by omega
       obtain⟨d,e,hd,he,hde,e1,e2⟩:=sless_word x y bo bx hy2 hbo
       have hst:=step_step (out:=nx.drop i) (la:=cur.drop i) (lv:=words V) (k:=t) (q:=g1) (c:=c9) (b:=bo) (d:=d) (e:=e) (t:=p) (by have:=hln.out; simp; omega) (by rw[←hxc,←hy]; omega) (by rw[hp,hv]) hinv.out
       rw[←hc8,←drop_set_at,Nat.add_comm i t] at hst
       have HS:=Lib.hid hst
       have E:=Lib.hid (And.intro e1 e2)
       have hit:((t:Int)+(i:Int)).toNat=t+i:=by omega
       clear hx hxc hv hat hp hgv hy hc8 e1 e2 hde hst
       go_wp2_with (go_at_call 213; refine HAT.out.mono ?_; rintro e w9 ⟨rfl,rfl⟩)
       rw[E.out.1,E.out.2]
       refine⟨⟨t+1,e,c8,nx.set (t+i) d,by omega,by go_num,rfl,he,rfl,hc2,Lib.hid (by have:=hln.out; simpa using this),wok_set on_ _ _ hd,Lib.hid (fun j hj=>by rw[List.getElem?_set_ne (by omega)]; exact hout.out j (by omega)),HS,hbn.set _ _,hbq.set_ne (by omega) _ _,Lib.hid (row_set_ne hrv.out (fun b off e=>by have:=hpvu.out b off e; omega) _ _),hBn.setCell (p:=⟨bu,t+i,none⟩) (by have:=hbuw.out; exact this) _⟩,by simp[intOf]; omega⟩
      ·obtain rfl:t=m+1:=by omega
       have hlt9:wv ((nx.drop i).take (m+1))<4294967296 ^ (m+1):=by
        have h1:=wv_lt (wok_take (wok_drop on_ i) (m+1))
        have h2:((nx.drop i).take (m+1)).length=m+1:=by have:=hln.out; simp; omega
        rwa[h2] at h1
       have hi9:=hinv.out
       rw[List.take_of_length_le (l:=words V) (by have:=hlv.out; omega),wv_words] at hi9
       have hend:=sstep_end hi9 HQ.out.symm hVp.out hlt9
       have hlr:=long_round (cur:=cur) (l':=nx) (m:=m) (by have:=hlc.out; omega) (by rw[hln.out,hlc.out]) hout.out (Nat.lt_trans hXV.out hVm.out)
       have hld:=long_digit (V:=V) hVp.out (hsame.out i (by omega)) hmod.out hdiv.out (by have:=hlq.out; omega) (R:=g1) (by rw[←HW.out]; exact HQ.out)
       rw[←HW.out,←hend,←hlr] at hld
       have HE:=Lib.hid hld
       clear hlt9 hi9 hend hlr hld hinv
       go_wp2_with fail
       refine⟨⟨i,nx,quo.set i g1,by omega,rfl,hln,on_,Lib.hid (by have:=hlq.out; simpa using this),wok_set oq _ _ hQ32,Lib.hid (fun j hj=>by rw[hout.out j (.inl hj)]; exact hsame.out j (by omega)),Lib.hid HE.out.1,Lib.hid HE.out.2,hbn,hbq,hrv,hBn⟩,by simp[intOf]⟩
    ·have hd1:decide (g1≤Q)=false:=by simp; omega
     rw[hd1] at HF
     go_wp2_with (refine HF.out.mono ?_; rintro e w9 ⟨rfl,hb9⟩)
     go_roundw
     case rel=>exact⟨g1 - 1,by go_num,by omega,by omega,Lib.hid (hbb.out.trans (hb9.mono hbb.out.size))⟩
     case measure=>simp[intOf]; omega
end Go.Proofs.YthklnbaddobieaaGreat
namespace Go.Proofs.YthklnbaddobieaaGreat
open Go.RowKit Tr
set_option maxRecDepth 100000 in
theorem sdivided_less(a b:Nat)(va vb:Value)(w:World)(ha:WSl w va (words a))(hb:WSl w vb (words b))(hab:a<b)(hn:(words a).length<274877906944) :
  Calls Tryz.prog 170 #[va,vb] w fun e w'=>∃ v1 v2,e=.returned (.tuple #[v1,v2])∧WSl w' v1 (words (a / b))∧WSl w' v2 (words (a % b))∧Below w.heap.size w w':=by
 have HN:=Lib.hid hn
 have HA:=Lib.hid (And.intro ha hb)
 obtain⟨z,hz⟩:∃ z,z=cmpZ a b:=⟨_,rfl⟩
 have hz0:z<0:=by rw[hz]; exact cmp_lt hab
 have HU:=Lib.hid (fun(w:World) ha hb=>by have:=sunder_any a b va vb w ha hb (by omega); rw[←hz] at this; exact this)
 have HD:=Lib.hid hab
 clear hz hab hn
 go_enter Tryz.func170,Tryz.ntmps170
 go_wp2_with (go_at_call 171; refine(HU.out _ HA.out.1 HA.out.2).mono ?_; rintro e w' ⟨rfl,d,rfl⟩)
 go_ret2
 refine⟨_,_,rfl,?_,?_,below_drewN br d⟩
 ·rw[Nat.div_eq_of_lt HD.out,words_zero]; exact WSl.nil _
 ·rw[Nat.mod_eq_of_lt HD.out]; exact HA.out.1.drewN d
set_option maxRecDepth 100000 in
theorem sdivided_word(a b:Nat)(va vb:Value)(w:World)(ha:WSl w va (words a))(hb:WSl w vb (words b))(hab:b≤a)(h1:(words b).length=1)(hn:(words a).length<274877906944) :
  Calls Tryz.prog 170 #[va,vb] w fun e w'=>∃ v1 v2,e=.returned (.tuple #[v1,v2])∧WSl w' v1 (words (a / b))∧WSl w' v2 (words (a % b))∧Below w.heap.size w w':=by
 have HN:=Lib.hid hn
 have HA:=Lib.hid (And.intro ha hb)
 obtain⟨z,hz⟩:∃ z,z=cmpZ a b:=⟨_,rfl⟩
 have hz0:¬z<0:=by rw[hz]; exact cmp_ge hab
 have HU:=Lib.hid (fun(w:World) ha hb=>by have:=sunder_any a b va vb w ha hb (by omega); rw[←hz] at this; exact this)
 obtain⟨hb32,hbw⟩:=words_one h1
 have hb0:0<b:=by
  rcases Nat.eq_zero_or_pos b with h|h
  ·rw[h,words_zero] at h1; simp at h1
  ·exact h
 obtain⟨pb,cb,rfl,hcb,hrb⟩:=hb
 obtain⟨bb,ob,rfl,hbb,hcell⟩:=hrb (by rw[hbw]; simp)
 have c0:=hcell 0 (by rw[h1]; omega)
 rw[hbw] at c0
 simp only[List.getElem?_cons_zero,Option.getD_some,Nat.add_zero] at c0
 rw[h1] at HA HU ⊢
 have hsh:=fun(w:World) (ha:WSl w va (words a))=>ssmall_any (words a) b va w (wok_words a) hb0 hb32 ha (by omega)
 have hr32:a % b<4294967296:=Nat.lt_trans (Nat.mod_lt _ hb0) hb32
 rw[wv_words] at hsh
 have HS:=Lib.hid hsh
 obtain⟨r,hr⟩:∃ r,r=a % b:=⟨_,rfl⟩
 have hw1:wv [r]=r:=by simp[wv]
 have hcut:=fun(w:World)=>scut_any [r] _ _ (by rw[wok_cons]; exact⟨by omega,wok_nil⟩) ((wsl_lit w r).wsl (k:=1) (cap:=1) (by simp) (by omega)) (by simp)
 rw[hw1] at hcut
 rw[←hr] at HS ⊢ hr32
 have HC:=Lib.hid hcut
 clear hz hab hrb hcb hn hcell hbw h1 hr hcut hw1 ha hsh
 go_enter Tryz.func170,Tryz.ntmps170
 go_wp2_with (first
  | (go_at_call 171; refine(HU.out _ HA.out.1 HA.out.2).mono ?_; rintro e w' ⟨rfl,d,rfl⟩)
  | (go_at_call 210; refine(HS.out _ (HA.out.1.drewN d)).mono ?_; rintro e w' ⟨v,rfl,hv,hb1⟩)
  | (go_at_call 200; refine(HC.out _).mono ?_; rintro e w' ⟨v2,rfl,hv2,rfl⟩))
 go_ret2
 refine⟨_,_,rfl,hv.below (br.alloc (Nat.le_refl _) _),hv2,?_⟩
 have h9:=(below_drewN (Below.refl w.heap.size w) d).trans (hb1.mono (by simp))
 exact h9.alloc h9.size _
theorem sdivided_any(a b:Nat)(va vb:Value)(w:World)(ha:WSl w va (words a))(hb:WSl w vb (words b))(hb0:0<b)(hn:(words a).length<274877906944) :
  Calls Tryz.prog 170 #[va,vb] w fun e w'=>∃ v1 v2,e=.returned (.tuple #[v1,v2])∧WSl w' v1 (words (a / b))∧WSl w' v2 (words (a % b))∧Below w.heap.size w w':=by
 by_cases hab:a<b
 ·exact sdivided_less a b va vb w ha hb hab hn
 ·by_cases h1:(words b).length=1
  ·exact sdivided_word a b va vb w ha hb (by omega) h1 hn
  ·have h2:2≤(words b).length:=by
    have:words b≠[]:=by intro h; have:=words_eq_nil.1 h; omega
    have:=List.length_pos_iff.2 this
    omega
   obtain⟨pa,ca,rfl,hra⟩:=ha
   obtain⟨pb,cb,rfl,hrb⟩:=hb
   exact sdivided_long a b _ _ rfl rfl h2 (by omega) pa pb ca cb w ⟨pa,ca,rfl,hra⟩ ⟨pb,cb,rfl,hrb⟩ hn
end Go.Proofs.YthklnbaddobieaaGreat
namespace Tr
theorem swords_norm{s:ByteArray}{l:List Nat}(hl:l.length=(s.size+3) / 4)(ol:WOk l)(hv:wv l=numS s)(hn:NoLead s):l=words (numS s):=by
 rcases Nat.eq_zero_or_pos s.size with h0|h0
 ·have h1:l=[]:=List.eq_nil_of_length_eq_zero (by omega)
  subst h1
  rw[←hv,wv_nil,words_zero]
 ·have hge:256 ^ (s.size - 1)≤numS s:=by
   rcases Nat.lt_or_ge (numS s) (256 ^ (s.size - 1)) with h|h
   ·have h1:=byteLE_le h
    have h2:(byteLE (numS s)).length=s.size:=by rw[←size_strN,strN_numS hn]
    omega
   ·exact h
  have hgt:(s.size - 1) / 4<(words (numS s)).length:=by
   refine words_length_gt (Nat.le_trans ?_ hge)
   rw[show(4294967296:Nat)=256 ^ 4 by decide,←Nat.pow_mul]
   exact Nat.pow_le_pow_right (by decide) (by omega)
  have h3:=words_take ol
  rw[hv,List.take_of_length_le (by omega)] at h3
  exact h3.symm
end Tr
namespace Go.Proofs.YthklnbaddobieaaGreat
open Go.RowKit Tr
set_option maxRecDepth 100000 in
theorem swords_row(s:ByteArray)(n:Nat)(hn:s.size=n)(w:World)(hs:n<274877906944) :
  Calls Tryz.prog 169 #[.string s] w fun e w'=>∃ v l,e=.returned v∧WSl w' v l∧WOk l∧wv l=numS s∧l.length=(n+3) / 4∧Below w.heap.size w w':=by
 have HL:=Lib.hid (leS_length s)
 have HN:=Lib.hid hn
 obtain⟨M,hM⟩:∃ M,(n+3) / 4=M:=⟨_,rfl⟩
 have e1:((n:Int)+3) / 4=(M:Int):=by omega
 have hmk:=run_mk M (by omega)
 have HMM:=Lib.hid hM
 have hlen:(s.size:Int)=(n:Int):=by omega
 clear hM hn
 go_enter Tryz.func169,Tryz.ntmps169
 go_wp2_with fail
 rw[e1]
 go_loopw [4,5] (fun i _ wr=>∃(k:Nat) (cur:List Nat),k≤n∧i=.int .i64 k∧Hid (cur.length=M)∧WOk cur∧Hid (wv cur=bv ((leS s).take k))∧Blk wr w.heap.size cur∧Below w.heap.size w wr) (fun i _ _=>n - (intOf i).toNat)
 case atStart=>exact⟨0,List.replicate M 0,Nat.zero_le _,rfl,Lib.hid (by simp),wok_replicate _,Lib.hid (by rw[wv_replicate]; simp[bv]),Blk.new _ _,br.alloc (Nat.le_refl _) _⟩
 case round =>
  obtain⟨k,cur,hk,rfl,hlc,oc,hinv,hblk,hB⟩:=hrel
  by_cases hlt:k<n
  ·obtain⟨kq,hkq⟩:∃ kq,kq=k / 4:=⟨_,rfl⟩
   obtain⟨kr,hkr⟩:∃ kr,kr=k % 4:=⟨_,rfl⟩
   have hkr4:kr<4:=by omega
   have hkM:kq<M:=by have:=HMM.out; omega
   have c0:=hblk.cell (i:=kq) (by have:=hlc.out; omega)
   have f0:=hblk.frozen kq
   obtain⟨kj,hkj⟩:∃ kj,kj=n - 1 - k:=⟨_,rfl⟩
   have hj:kj<s.size:=by have:=HN.out; omega
   obtain⟨x,hxe⟩:∃ x,x=s[kj].toNat:=⟨_,rfl⟩
   have hx:Hid ((leS s)[k]?=some x):=Lib.hid (by have:=leS_get s k (by have:=HN.out; omega); simp only[HN.out,←hkj] at this; rw[this,hxe])
   have hx256:x<256:=by rw[hxe]; exact UInt8.toNat_lt _
   have hix:∀ w,(Instr.index 9 (.string s) (.int .i64 (kj:Int))).run Tryz.prog w=.ok (.int .u8 (x:Int)) w:=fun w=>by
    rw[run_index_string w 9 s .i64 kj Tryz.underlying9,dif_pos ⟨by omega,by omega⟩,hxe]
    simp
   clear hxe
   have hbv:=bv_lt (bok_take (bok_leS s) k)
   obtain⟨hd1,hd2⟩:=setb_step (x:=x) (i:=k) (by have:=hlc.out; omega) hinv.out (by rw[List.length_take] at hbv; have:=HL.out; have:=HN.out; rwa[Nat.min_eq_left (by omega)] at hbv)
   rw[←hkq,←hkr] at hd1 hd2
   obtain⟨y,hy⟩:∃ y,y=wat cur kq:=⟨_,rfl⟩
   rw[show cur[kq]?.getD 0=y from hy.symm] at c0
   rw[←hy] at hd1 hd2
   have q1:(k:Int).tdiv 4=(kq:Int):=by rw[Int.tdiv_eq_ediv_of_nonneg (by omega)]; omega
   have q2:(k:Int).tmod 4=(kr:Int):=by rw[Int.tmod_eq_emod_of_nonneg (by omega)]; omega
   have q1':(k:Int) / 4=(kq:Int):=by omega
   have q2':(k:Int) % 4=(kr:Int):=by omega
   have q3:(n:Int) - 1 - (k:Int)=(kj:Int):=by omega
   have q5:(kj:Int)<(n:Int):=by omega
   have q6:(kq:Int)<(M:Int):=by omega
   obtain⟨ks,hks⟩:∃ ks,ks=kr*8:=⟨_,rfl⟩
   have q7:(kr:Int)*8=(ks:Int):=by omega
   have q8:(8:Int)*(kr:Int)=(ks:Int):=by omega
   have q9:ks<32:=by omega
   have w1:IntKind.i64.wrap (kq:Int)=(kq:Int):=IntWalk.i64_in _ (by omega)
   have w2:IntKind.i64.wrap (kr:Int)=(kr:Int):=IntWalk.i64_in _ (by omega)
   have w3:IntKind.i64.wrap (ks:Int)=(ks:Int):=IntWalk.i64_in _ (by omega)
   have w4:IntKind.u32.wrap (x:Int)=(x:Int):=by rw[IntKind.wrap_u32]; omega
   have ep:2 ^ ks=256 ^ kr:=by rw[hks,Nat.mul_comm,Nat.pow_mul]
   obtain⟨z,hz⟩:∃ z,z=y+x*2 ^ ks:=⟨_,rfl⟩
   have hpk:2 ^ ks≤2 ^ 24:=Nat.pow_le_pow_right (by decide) (by omega)
   have hxk:x*2 ^ ks≤255*2 ^ 24:=Nat.mul_le_mul (by omega) hpk
   obtain⟨u,hu⟩:∃ u,u=x*2 ^ ks:=⟨_,rfl⟩
   have w5:IntKind.u32.wrap ((x:Int)*2 ^ ks)=(u:Int):=by
    rw[show(x:Int)*2 ^ ks=(u:Int) by rw[hu]; simp,IntKind.wrap_u32]; omega
   have w6:(y:Int)+(u:Int)=(z:Int):=by omega
   have hz32:z<4294967296:=by rw[hz]; rw[←ep] at hd1; omega
   have hd2:wv (cur.set kq z)=bv ((leS s).take k)+256 ^ k*x:=by rw[hz,ep]; exact hd2
   have hbv2:=bv_take_succ (l:=leS s) (i:=k) (by have:=HL.out; have:=HN.out; omega)
   have hxg:(leS s)[k]'(by have:=HL.out; have:=HN.out; omega)=x:=by
    have h5:=hx.out
    rw[List.getElem?_eq_getElem (by have:=HL.out; have:=HN.out; omega)] at h5
    simpa using h5
   rw[hxg,←hd2] at hbv2
   have HV:=Lib.hid hbv2.symm
   have HKS:=Lib.hid hks
   clear hks
   have HK:=Lib.hid (And.intro hkq hkr)
   clear hd1 hd2 hbv hy hj hkq hkr hkj hz ep hpk hxk hbv2 hxg hu
   go_wp2_with fail
   refine wp_region_tail 18 (by kernel_rfl) (by kernel_rfl) ?_
   simp only[List.take_succ_cons,List.take_zero,List.drop_succ_cons,List.drop_zero]
   repeat still_step
   refine wpStill_nil ?_
   go_wp2_with fail
   go_roundw
   case rel=>exact⟨k+1,cur.set kq z,by omega,by go_num,Lib.hid (by have:=hlc.out; simpa using this),wok_set oc _ _ hz32,HV,hblk.set _ _,hB.drew.setCell (p:=⟨w.heap.size,kq,none⟩) (Nat.le_refl _) _⟩
   case measure=>simp[intOf]; omega
  ·obtain rfl:n=k:=by omega
   have hfin:wv cur=numS s:=by rw[hinv.out,List.take_of_length_le (by have:=HL.out; have:=HN.out; omega)]; rfl
   have HF:=Lib.hid hfin
   have hW:WSl wr (.slice (some ⟨w.heap.size,0,none⟩) M M) cur:=⟨_,M,by rw[hlc.out],by rw[hlc.out]; exact Nat.le_refl _,hblk.row⟩
   clear hfin
   go_wp2
   go_ret
   exact⟨_,cur,rfl,hW,oc,HF.out,by rw[hlc.out,HMM.out],hB⟩
theorem swords_any(n:Nat)(hs:(strN n).size<274877906944)(w:World) :
  Calls Tryz.prog 169 #[.string (strN n)] w fun e w'=>∃ v,e=.returned v∧WSl w' v (words n)∧Below w.heap.size w w':=by
 refine(swords_row (strN n) _ rfl w hs).mono ?_
 rintro e w' ⟨v,l,rfl,hv,ol,hw,hl,hb⟩
 have:=swords_norm hl ol hw (noLead_strN n)
 rw[numS_strN] at this
 rw[this] at hv
 exact⟨v,rfl,hv,hb⟩
end Go.Proofs.YthklnbaddobieaaGreat
