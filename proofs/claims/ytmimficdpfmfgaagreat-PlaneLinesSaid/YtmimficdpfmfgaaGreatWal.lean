/- Laws. -/
import Derived.Test.YtmimficdpfmfgaaGreatWak
import Derived.BigRegion
set_option linter.all false
set_option maxHeartbeats 4000000
set_option maxRecDepth 100000
open Go.Lib (hid)
namespace Tr
def Kex{a b M m D k:Nat}(hM:(Qac a).length=M)(hm:(Qac b).length=m)(hm0:1<=m/\m<=M)(hD:D=M+2-m):a*2^k/4294967296^D<b*2^k:=by
 have h1:=Qvw (D:=M+1-m) (k:=k) hM hm hm0 rfl;refine axd ?_ h1;exact Nat.div_le_div_left (axg (by decide) (by omega)) (Nat.pow_pos (by decide))
def Ktf{W0 W Q V P c b:Nat}(h:W+Q*V=W0+P*(c+b))(hQ:Q=W0/V)(hV:0<V)(hlt:W<P):W=W0%V:=by
 have h1:=Nat.div_add_mod W0 V;have h2:=Nat.mod_lt W0 hV;rw[<-hQ,Nat.mul_comm] at h1;have hc:c+b=0:=by
  rcases axh (c+b) with h0|h0
  .exact h0
  .have:P*1<=P*(c+b):=axl _ h0;omega
 rw[hc,Nat.mul_zero] at h;omega
def Kmq{Q g V W:Nat}(hV:0<V)(hQ:W/V=Q):g*V<=W↔g<=Q:=by
 rw[<-hQ,Nat.le_div_iff_mul_le hV]
end Tr
namespace Go.Proofs.YtmimficdpfmfgaaGreat
open Go.RowKit Tr Proofs.Tryz
def Qyk(a b M m:Nat)(hM:(Qac a).length=M)(hm:(Qac b).length=m)(hm2:2<=m)(hba:b<=a)(pa pb:Option Addr)(ca cb:Nat)(w:World)(ha:WSl w (.slice pa M ca) (Qac a))(hb:WSl w (.slice pb m cb) (Qac b))(hn:M<274877906944) :
  Calls prog 272 #[.slice pa M ca,.slice pb m cb] w fun e w'=>∃ v1 v2,e=.returned (.tuple #[v1,v2])/\WSl w' v1 (Qac (a/b))/\WSl w' v2 (Qac (a%b))/\Below w.heap.size w w':=by
 have H:=hid (And.intro hM hm);have hmM:m<=M:=by
  rcases Nat.lt_or_ge M m with h|h
  .have:=Qdt (a:=a) (b:=b) (by omega);omega
  .exact h
 have hun:=fun w=>Qgw a b (.slice pa M ca) (.slice pb m cb) w
 have HC:=hid (Qvf hba);have HA:=hid (And.intro ha hb);have ht0:=Qyr hm (by omega);clear hM hm ha hb
 go_enter func272,Tryz.ntmps272
 obtain⟨z,hz⟩:∃ z,z=Qdw a b:=⟨_,rfl⟩
 have hz0:¬z<0:=by rw[hz];exact HC.out
 have hm1:((m:Int)==1)=false:=by simp;omega
 rw[<-hz] at hun;have HUN:=hid hun;clear hz hun;obtain⟨bt,hbt⟩:∃ bt,bt=(Qac b)[m-1]?.getD 0:=⟨_,rfl⟩
 rw[<-hbt] at ht0;have HBT:=hid (And.intro hbt ht0);clear hbt ht0
 go_wp2_with (first|(go_at_call 235;refine(HUN.out _ HA.out.1 HA.out.2 (by have:=H.out;omega)).mono ?_;rintro e w' ⟨rfl,d,rfl⟩))
 have HB0:=hid (Qbs (Below.refl w.heap.size w) d);refine(Kbu b m H.out.2 (by omega) _ _ (HA.out.2.drewN d) (by omega)).mono ?_;rintro e w1 ⟨⟨k,hk0,hk32,hk1,hk2,rfl⟩,rfl⟩;rw[<-HBT.out.1] at hk1 hk2;obtain⟨s,hs⟩:∃ s,s=32-k:=⟨_,rfl⟩
 obtain⟨N0,hN0⟩:∃ N0,N0=32*(m-1)+k:=⟨_,rfl⟩
 rw[<-hN0];have es:(32:Int)*(m:Int)-(N0:Int)=(s:Int):=by omega
 have hpow:2^k*2^s=4294967296:=by rw[<-Nat.pow_add,show k+s=32 by omega]
 have hb1:bt*2^s<4294967296:=by rw[<-hpow];exact Nat.mul_lt_mul_of_pos_right hk2 (Nat.two_pow_pos s)
 have hnl:=hid (Khw (k:=s) H.out.2 (by omega) HBT.out.1 hb1 (by omega));have hul:=hid (Ueb (k:=s) H.out.1 (by omega));have hs31:s<=31:=by omega
 have hN0b:N0<17592186044416:=by omega
 clear hk1 hk2 hpow hb1 hs hN0 hk0 hk32
 go_wp2_with fail
 refine(Kfb (Qac b) s _ _ (Qap b) (HA.out.2.drewN d) (by have:=H.out;omega) (by omega)).mono ?_;rintro e w1 ⟨v,rfl,hv,hb1⟩;rw[Qaq] at hv;obtain⟨V,hV⟩:∃ V,V=b*2^s:=⟨_,rfl⟩
 rw[<-hV] at hv hnl;obtain⟨pv,cv,rfl,hcv,hrow⟩:=hv;rw[hnl.out] at hcv ⊢;have HV:=hid (And.intro hV (And.intro hcv hrow));have hb1':=HB0.out.trans (hb1.mono (by simp));clear hV hcv hrow;have hmk:=Qgr (M+2) (by omega);have en:((M+2:Nat):Int)=(M:Int)+2:=by omega
 rw[en] at hmk;clear en
 go_wp2_with fail
 have hb1u:=hb1'.alloc hb1'.size (Obj.cells (Qlf (List.replicate (M+2) 0)) 268);refine(Kfb (Qac a) s _ _ (Qap a) (HA.out.1.below hb1u) (by have:=H.out;omega) (by omega)).mono ?_;rintro e w2 ⟨v,rfl,hv,hb2⟩;rw[Qaq] at hv;obtain⟨A,hA'⟩:∃ A,A=a*2^s:=⟨_,rfl⟩
 rw[<-hA'] at hv hul;obtain⟨pA,cA,rfl,hcA,hrowA⟩:=hv;obtain⟨n2,hn2⟩:∃ n2,(Qac A).length=n2:=⟨_,rfl⟩
 rw[hn2] at hrowA hcA hul ⊢;have hne:Qac A≠[]:=by
  intro h;have h1:=Qbz.1 h;have h2:0<a:=by
   rcases axh a with h0|h0
   .have h3:=H.out;rw[show b=0 by omega,Qay] at h3;simp at h3;omega
   .exact h0
  have:=Nat.mul_pos h2 (Nat.two_pow_pos s);omega
 obtain⟨bA,oA,rfl,hbA,hcellA⟩:=hrowA hne;have hu2:Blk w2 w1.heap.size (List.replicate (M+2) 0):=(Blk.new w1 _).below hb2;have hb2':=hb1u.trans (hb2.mono hb1u.size);have HAA:=hid (And.intro hA' hn2);have HUL:Hid (n2<=M+1):=hid hul.out;have hmn:Nat.min n2 (M+2)=n2:=Nat.min_eq_left (by have:=HUL.out;omega);have hcs1:((Qac A).map fun x:Nat=>Value.int .u32 (x:Int)).length=Nat.min n2 (M+2):=by rw[List.length_map,hn2,hmn]
 have hcs2:∀(j:Nat) (v:Value),((Qac A).map fun x:Nat=>Value.int .u32 (x:Int))[j]?=some v->w2.cell? ((⟨bA,oA,none⟩:Addr).add j)=some v:=fun j v hj=>by
  rw[List.getElem?_map] at hj;obtain⟨y,hy,rfl⟩:=Option.map_eq_some_iff.1 hj;have hlt:=(axb.1 hy).1;have h1:=hcellA j (by omega);rw[hy] at h1;rw[Addr.add_lit];simpa using h1
 have HCS:=hid (And.intro hcs1 hcs2);clear hA' hn2 hul hcs1 hcs2 hrowA hcellA hne hmn;have hcs4:∀ v∈((Qac A).map fun x:Nat=>Value.int .u32 (x:Int)),v.oneCell'=true:=by intro v hv;obtain⟨y,_,rfl⟩:=List.mem_map.1 hv;rfl
 have hcs3:0+((Qac A).map fun x:Nat=>Value.int .u32 (x:Int)).length<=(Qlf (List.replicate (M+2) 0)).size:=by rw[HCS.out.1,Kcc,List.length_replicate,Nat.zero_add];exact Nat.min_le_right _ _
 have hcp:=run_copy_row (P:=prog) w2 228 228 3 268 w1.heap.size 0 (M+2) (M+2) ⟨bA,oA,none⟩ n2 cA (Qlf (List.replicate (M+2) 0)) 268 _ Tryz.underlying228 Kje hu2 HCS.out.1 HCS.out.2 hcs3 hcs4;rw[Khd] at hcp;obtain⟨w3,hw3⟩:∃ w3,w3=w2.setRow w1.heap.size (Qlf (Qac A++List.replicate (M+2-(Qac A).length) 0)):=⟨_,rfl⟩
 rw[<-hw3] at hcp;have hu3:Blk w3 w1.heap.size (Qac A++List.replicate (M+2-(Qac A).length) 0):=by rw[hw3];exact hu2.setRow rfl
 have hb3':Below w.heap.size w w3:=by rw[hw3];exact below_setRow hb2' hb1'.size _
 have hv3:Row w3 pv (Qac V):=by
  intro hne;obtain⟨b5,o5,h1,h2,h3⟩:=HV.out.2.2 hne;refine⟨b5,o5,h1,by rw[hw3];have:=hb2.size;simp[World.setRow] at this ⊢;omega,fun j hj=>?_⟩;have hb13:Below w1.heap.size w1 w3:=by rw[hw3];exact below_setRow ((br.alloc lr _).trans (hb2.mono (by simp))) lr _
  exact(hb13.cell (p:=⟨b5,o5+j,none⟩) h2).trans (h3 j (by have:=hnl.out;omega))
 clear hcs3 hcs4 hw3;have hmk2:=Qgr (M+2-m) (by omega);have en2:((M+2-m:Nat):Int)=(M:Int)+2-(m:Int):=by omega
 rw[en2] at hmk2;clear en2
 go_wp2_with fail
 obtain⟨u0,hu0⟩:∃ u0,u0=Qac A++List.replicate (M+2-(Qac A).length) 0:=⟨_,rfl⟩
 rw[<-hu0] at hu3;have lu0:u0.length=M+2:=by rw[hu0];have:=HAA.out.2;have:=HUL.out;simp;omega
 have wu0:wv u0=A:=by rw[hu0,Qix,Qel,Qaq];simp
 have ou0:WOk u0:=by rw[hu0,Qgf];exact⟨Qap A,Qbn _⟩
 have H0:=hid (And.intro lu0 (And.intro wu0 ou0));clear hu0 lu0 wu0 ou0 hcp HCS;obtain⟨bu,hbu⟩:∃ bu,bu=w1.heap.size:=⟨_,rfl⟩
 rw[<-hbu] at hu3 ⊢;have HBU:=hid hbu;have hsz1:=hu3.lt;clear hbu;obtain⟨D,hD⟩:∃ D,M+2-m=D:=⟨_,rfl⟩
 have hDm:D+m=M+2:=by omega
 rw[hD] at ⊢;clear hD;have hq4:=Blk.new w3 (List.replicate D 0);obtain⟨bq,hbq⟩:∃ bq,bq=w3.heap.size:=⟨_,rfl⟩
 have hb4:Below w3.heap.size w3 (w3.alloc (.cells (Qlf (List.replicate D 0)) 268)):=br.alloc lr _;have hu4:=hu3.below hb4;have hb4':=hb3'.trans (hb4.mono hb3'.size);have hv4:Row (w3.alloc (.cells (Qlf (List.replicate D 0)) 268)) pv (Qac V):=by
  intro hne;obtain⟨b5,o5,h1,h2,h3⟩:=hv3 hne;exact⟨b5,o5,h1,by simp;omega,fun j hj=>(hb4.cell (p:=⟨b5,o5+j,none⟩) h2).trans (h3 j hj)⟩
 have hstart:Hid (wv (u0.drop D)<V):=hid (by
  have h1:D<=u0.length:=by rw[H0.out.1];omega
  rw[<-Qwx H0.out.2.2 D h1,H0.out.2.1,HAA.out.1,HV.out.1];exact Kex H.out.1 H.out.2 (by omega) (by omega))
 rw[<-hbq] at hq4 ⊢;have HBQ:=hid hbq;have hsz2:bu<bq:=by omega
 clear hb4 hv3 hbq;obtain⟨w4,hw4⟩:∃ w4,w4=w3.alloc (.cells (Qlf (List.replicate D 0)) 268):=⟨_,rfl⟩
 rw[<-hw4] at hq4 hu4 hb4' hv4 ⊢;clear hw4 hmk2 hu3;have hVp:Hid (0<V):=hid (by
  rcases axh V with h0|h0
  .have h1:=hnl.out;rw[h0,Qay] at h1;simp at h1;omega
  .exact h0)
 have hbuw:Hid (w.heap.size<=bu):=hid (by rw[HBU.out];exact hb1'.size);have hpvu:Hid (∀ b off,pv=some ⟨b,off,none⟩->b<bu):=hid (fun b off e=>by
  obtain⟨b6,o6,h1,h2,h3⟩:=HV.out.2.2 (by intro h;have:=hnl.out;rw[h] at this;simp at this;omega);rw[h1] at e;cases e;have:=HBU.out;omega)
 have hcv:m<=cv:=HV.out.2.1
 go_loopw [13,14,15,16,17,18,19] (fun j _ _ _ _ _ _ wr=>∃(i:Nat) (cur quo:List Nat),i<=D/\j=.int .i64 ((i:Int)-1)/\Hid (cur.length=M+2)/\WOk cur/\Hid (quo.length=D)/\WOk quo/\Hid (∀ t,t<i->cur[t]?=u0[t]?)/\Hid (wv (cur.drop i)=wv (u0.drop i)%V)/\Hid (wv (quo.drop i)=wv (u0.drop i)/V)/\Blk wr bu cur/\Blk wr bq quo/\Hid (Row wr pv (Qac V))/\Below w.heap.size w wr)
  (fun j _ _ _ _ _ _ _=>(intOf j+1).toNat)
 case atStart =>
  refine⟨D,u0,List.replicate D 0,Nat.le_refl _,?_,hid H0.out.1,H0.out.2.2,hid (by simp),Qbn _,hid (fun _ _=>rfl),hid (Nat.mod_eq_of_lt hstart.out).symm,hid ?_,hu4,hq4,hid hv4,hb4'⟩
  .congr 1;omega
  .rw[axj (by simp),Nat.div_eq_of_lt hstart.out];rfl
 case round =>
  obtain⟨i,cur,quo,hi,rfl,hlc,oc,hlq,oq,hsame,hmod,hdiv,hbc,hbq4,hrv,hB4⟩:=hrel;cases i with
  | zero =>
   have hcv2:=hmod.out;have hqv:=hdiv.out;rw[List.drop_zero,List.drop_zero,H0.out.2.1] at hcv2 hqv;have eA:A%V=a%b*2^s:=by rw[HAA.out.1,HV.out.1,Nat.mul_mod_mul_right]
   have eQ:A/V=a/b:=by rw[HAA.out.1,HV.out.1,Nat.mul_div_mul_right _ _ (Nat.two_pow_pos s)]
   rw[eA] at hcv2;rw[eQ] at hqv;have wq:WSl wr (.slice (some ⟨bq,0,none⟩) D D) quo:=⟨_,D,by rw[hlq.out],by rw[hlq.out];exact Nat.le_refl _,hbq4.row⟩
   have wu:WSl wr (.slice (some ⟨bu,0,none⟩) (M+2) (M+2)) cur:=⟨_,M+2,by rw[hlc.out],by rw[hlc.out];exact Nat.le_refl _,hbc.row⟩
   have cd1:=Qfm quo _ wr oq wq (by have:=hlq.out;omega);have cd2:=Qfm cur _ wr oc wu (by have:=hlc.out;omega);rw[hqv] at cd1;rw[hcv2] at cd2;have HC1:=hid cd1;have HC2:=hid cd2;have hl9:(Qac (a%b*2^s)).length<549755813888:=by
    rw[<-hcv2];exact axd (Qal (Qgu oc)) (by have:=hlc.out;omega)
   have hrt:=fun(w9:World) (v:Value) (h:WSl w9 v (Qac (a%b*2^s)))=>Ksu (Qac (a%b*2^s)) s v w9 (Qap _) h hl9 (by omega)
   rw[Qaq,Nat.mul_div_cancel _ (Nat.two_pow_pos s)] at hrt;have HR:=hid hrt;clear hrt cd1 cd2 hqv hcv2 eA eQ wq wu hl9;rw[show(((0:Nat):Int)-1)=-1 from rfl]
   go_wp2_with fail
   refine HC1.out.mono ?_;rintro e w9 ⟨v1,rfl,hv1,rfl⟩
   go_wp2_with (first
    | (go_at_call 260;refine HC2.out.mono ?_;rintro e w9 ⟨v2,rfl,hv2,rfl⟩)
    | (go_at_call 293;refine(HR.out _ _ hv2).mono ?_;rintro e w9 ⟨v3,rfl,hv3,hb9⟩))
   go_ret2
   exact⟨_,_,rfl,hv1.below hb9,hv3,hB4.trans (hb9.mono hB4.size)⟩
  | succ i =>
   obtain⟨wo,rfl⟩:∃ wo:World,wo=wr:=⟨_,rfl⟩
   have ei:((i+1:Nat):Int)-1=(i:Int):=by omega
   rw[ei];clear ei;have hiM:i+m<M+2:=by omega
   have c5:=hbc.cell (i:=i+m) (by have:=hlc.out;omega);have c6:=hbc.cell (i:=i+m-1) (by have:=hlc.out;omega);have bx1:cur[i+m]?.getD 0<4294967296:=Qci oc _;have bx2:cur[i+m-1]?.getD 0<4294967296:=Qci oc _;obtain⟨x1,hx1⟩:∃ x1,x1=cur[i+m]?.getD 0:=⟨_,rfl⟩
   obtain⟨x2,hx2⟩:∃ x2,x2=cur[i+m-1]?.getD 0:=⟨_,rfl⟩
   rw[<-hx1] at c5 bx1;rw[<-hx2] at c6 bx2;have hwt:=Qwv (i:=i) hm2 oc (by have:=hlc.out;omega);rw[show wat cur (i+m)=x1 from hx1.symm,show wat cur (i+m-1)=x2 from hx2.symm] at hwt;have HWT:=hid hwt;clear hwt hx1 hx2;have hXV:Hid (wv (cur.drop (i+1))<V):=hid (by rw[hmod.out];exact Nat.mod_lt _ hVp.out);have hVm:Hid (V<4294967296^m):=hid (by have h1:=Qbr V;rwa[hnl.out] at h1);have HW:Hid (wv ((cur.drop i).take (m+1))=wat cur i+4294967296*wv (cur.drop (i+1))):=hid (Ued oc (by have:=hlc.out;omega) (Nat.lt_trans hXV.out hVm.out));obtain⟨b5,o5,hpv,hb5,hc5⟩:=hrv.out (by intro h;have:=hnl.out;rw[h] at this;simp at this;omega);have c8:=hc5 (m-1) (by have:=hnl.out;omega);have hyt:=Qyr hnl.out (by omega);obtain⟨y1,hy1⟩:∃ y1,y1=(Qac V)[m-1]?.getD 0:=⟨_,rfl⟩
   rw[<-hy1] at c8 hyt;have hdt:=Qrv hm2 hnl.out;rw[show wat (Qac V) (m-1)=y1 from hy1.symm] at hdt;have HDT:=hid hdt;clear hdt hc5 hy1 hb5;subst hpv;obtain⟨Q,hQ⟩:∃ Q,wv ((cur.drop i).take (m+1))/V=Q:=⟨_,rfl⟩
   have hQ32:Q<4294967296:=by
    rw[<-hQ,HW.out,Nat.div_lt_iff_lt_mul hVp.out];exact Kqx (Qci oc i) hXV.out
   obtain⟨q1,hq1⟩:∃ q1,q1=(x1*4294967296+x2)/y1:=⟨_,rfl⟩
   have hQq:Q<=q1:=by
    obtain⟨ul,hul1,hul2⟩:=HWT.out;obtain⟨vl,hvl1,hvl2⟩:=HDT.out;rw[hq1,<-hQ];exact Kam hul2 hul1 (Qci oc _) hvl2 hyt.1
   have hq64:q1<18446744073709551616:=by rw[hq1];exact axd (Nat.div_le_self _ _) (by omega)
   obtain⟨tp,htp⟩:∃ tp:Nat,tp=x1*4294967296+x2:=⟨_,rfl⟩
   have htp1:(x1:Int)*4294967296+(x2:Int)=(tp:Int):=by omega
   have htp2:tp<18446744073709551616:=by omega
   have hdv:(tp:Int)/(y1:Int)=(q1:Int):=by rw[hq1,<-htp];simp
   have HQ:=hid hQ;have hyt1:=hyt.1;have hyt2:=hyt.2;have i8:(0:Int)<(y1:Int):=by omega
   have i9:((y1:Int)==0)=false:=by simp;omega
   clear hq1 hQ htp hyt;have i0:(0:Int)<=(i:Int)+(m:Int):=by omega
   have i1:(i:Int)+(m:Int)<(M:Int)+2:=by omega
   have i2:(0:Int)<=(i:Int)+(m:Int)-1:=by omega
   have i3:(i:Int)+(m:Int)-1<(M:Int)+2:=by omega
   have i4:((i:Int)+(m:Int)).toNat=i+m:=by omega
   have i5:((i:Int)+(m:Int)-1).toNat=i+m-1:=by omega
   have i6:(0:Int)<=(m:Int)-1:=by omega
   have i7:((m:Int)-1).toNat=m-1:=by omega
   obtain⟨g0,hg0⟩:∃ g0,g0=min q1 4294967295:=⟨_,rfl⟩
   have hmn:min (q1:Int) 4294967295=(g0:Int):=by omega
   have hQg:Q<=g0:=by omega
   have hg32:g0<4294967296:=by omega
   clear hg0
   go_wp2_with fail
   go_quiet (fail)
   go_wp2_with fail
   have hb0:Below wo.heap.size wo (wo.drewN nq):=Qbs br nq;obtain⟨wd,hwd⟩:∃ wd,wd=wo.drewN nq:=⟨_,rfl⟩
   rw[<-hwd] at hb0 ⊢;clear hwd c5 c6 c8 hdv;have HBC:=hid (And.intro hbc (And.intro hbq4 (And.intro hrv hB4)));clear hbc hbq4 hrv hB4
   go_loopw [15] (fun g wr2=>∃ g1:Nat,g=.int .u64 g1/\Q<=g1/\g1<4294967296/\Hid (Below wo.heap.size wo wr2)) (fun g _=>(intOf g).toNat)
   case atStart=>exact⟨g0,rfl,hQg,hg32,hid hb0⟩
   case round =>
    obtain⟨g1,rfl,hQg1,hg1,hbb⟩:=hrel;have hfit:=Ksw cur bu (M+2) i m g1 V _ hlc.out oc hnl.out (by omega) hg1 rfl (some ⟨b5,o5,none⟩) cv wr (HBC.out.1.below hbb.out) (WSl.below hbb.out ⟨_,cv,by rw[hnl.out],by rw[hnl.out];exact hcv,HBC.out.2.2.1.out⟩) (by omega);have hdec:decide (g1*V<=wv ((cur.drop i).take (m+1)))=decide (g1<=Q):=by
     rw[decide_eq_decide];exact Kmq hVp.out HQ.out
    rw[hdec] at hfit;have HF:=hid hfit;clear hfit hdec
    by_cases hgq:g1<=Q
    .obtain rfl:g1=Q:=by omega
     have hd1:decide (g1<=g1)=true:=by simp
     rw[hd1] at HF;have hbq:=HBC.out.2.1.below hbb.out;have hbu:=HBC.out.1.below hbb.out;have hrv:Hid (WSl wr (.slice (some ⟨b5,o5,none⟩) m cv) (Qac V)):=hid (WSl.below hbb.out ⟨some ⟨b5,o5,none⟩,cv,by rw[hnl.out],by rw[hnl.out];exact hcv,HBC.out.2.2.1.out⟩);have hBw:=HBC.out.2.2.2.trans (hbb.out.mono HBC.out.2.2.2.size);clear HBC hbb
     go_wp2_with fail
     refine HF.out.mono ?_;rintro e w9 ⟨rfl,hb9⟩;have cq:=(hbq.below hb9).cell (i:=i) (by have:=hlq.out;omega);have fq:=(hbq.below hb9).frozen i;have iR:(g1:Int)%4294967296=(g1:Int):=by omega
     have hne9:Hid (∀ b off,(some ⟨b5,o5,none⟩:Option Addr)=some ⟨b,off,none⟩->b≠bq):=hid (fun b off e=>by have:=hpvu.out b off e;omega);have hB9:=(hBw.trans (hb9.mono hBw.size)).setCell (p:=⟨bq,i,none⟩) (by have:=hbuw.out;show w.heap.size<=bq;omega) (.int .u32 (g1:Int));have hu9:=((hbu.below hb9)).set_ne (C:=bq) (by omega) i (.int .u32 (g1:Int));have hq9:=(hbq.below hb9).set i g1;have hv9:Hid (Row (w9.setCell ⟨bq,i,none⟩ (.int .u32 (g1:Int))) (some ⟨b5,o5,none⟩) (Qac V)):=hid (Qiu (by obtain⟨p,c,e,_,h⟩:=hrv.out.below hb9;cases e;exact h) hne9.out _ _);clear hb9 hbq hbu hBw hrv HF hne9
     go_wp2_with fail
     obtain⟨w8,hw8⟩:∃ x,x=w9.setCell ⟨bq,i,none⟩ (.int .u32 (g1:Int)):=⟨_,rfl⟩
     rw[<-hw8] at hB9 hu9 hq9 hv9 ⊢;clear hw8 cq fq iR;have hlv:=hid (show(Qac V).length=m from hnl.out)
     go_loopw [16,17,18,19] (fun bo ca t_ _ wr=>∃(t bo' ca':Nat) (nx:List Nat),t<=m+1/\t_=.int .i64 t/\bo=.int .u64 bo'/\bo'<=1/\ca=.int .u64 ca'/\ca'<4294967296/\Hid (nx.length=M+2)/\WOk nx/\Hid (∀ j,j<i\/i+t<=j->nx[j]?=cur[j]?)/\Hid (wv ((nx.drop i).take t)+g1*wv ((Qac V).take t)=wv ((cur.drop i).take t)+4294967296^t*(ca'+bo'))/\Blk wr bu nx/\Blk wr bq (quo.set i g1)/\Hid (Row wr (some ⟨b5,o5,none⟩) (Qac V))/\Below w.heap.size w wr)
      (fun _ _ t_ _ _=>m+1-(intOf t_).toNat)
     case atStart =>
      exact⟨0,0,0,cur,Nat.zero_le _,rfl,rfl,by omega,rfl,by omega,hlc,oc,hid (fun _ _=>rfl),hid (by simp[wv]),hu9,hq9,hv9,hB9⟩
     case round =>
      obtain⟨t,bo,c9,nx,ht,rfl,rfl,hbo,rfl,hca,hln,on_,hout,hinv,hbn,hbq,hrv,hBn⟩:=hrel
      by_cases htm:t<m+1
      .have cu:=hbn.cell (i:=t+i) (by have:=hln.out;omega);have fu:=hbn.frozen (t+i);obtain⟨x,hx⟩:∃ x,x=nx[t+i]?.getD 0:=⟨_,rfl⟩
       have bx:x<4294967296:=by rw[hx];exact Qci on_ _
       rw[<-hx] at cu;have hxc:x=wat (cur.drop i) t:=by rw[hx,Nat.add_comm t i,hout.out _ (.inr lr),Qyu];rfl
       obtain⟨v,hv⟩:∃ v,v=wat (Qac V) t:=⟨_,rfl⟩
       have bv:v<4294967296:=by rw[hv];exact Qci (Qap V) _
       have hat:=Qow (Qac V) (.slice (some ⟨b5,o5,none⟩) m cv) t wr (Qap V) ⟨some ⟨b5,o5,none⟩,cv,by rw[hlv.out],by rw[hlv.out];exact hcv,hrv.out⟩;rw[<-hv] at hat;have HAT:=hid hat;obtain⟨p,hp⟩:∃ p,p=c9+g1*v:=⟨_,rfl⟩
       have hgv:g1*v<=4294967295*4294967295:=axr (by omega) (by omega);have hp1:(c9:Int)+(g1:Int)*(v:Int)=(p:Int):=by rw[hp];simp
       have hp2:p<18446744073709551616:=by omega
       have hxy:=Qla hQ32 bv;obtain⟨y,hy⟩:∃ y,y=p%4294967296:=⟨_,rfl⟩
       have hy1:(p:Int)%4294967296=(y:Int):=by omega
       have hy2:y<4294967296:=by omega
       obtain⟨c8,hc8⟩:∃ c8,c8=p/4294967296:=⟨_,rfl⟩
       have hc1:(p:Int)/4294967296=(c8:Int):=by omega
       have hc2:c8<4294967296:=by omega
       obtain⟨d,e,hd,he,hde,e1,e2⟩:=Qwk x y bo bx hy2 hbo;have hst:=Qth (out:=nx.drop i) (la:=cur.drop i) (lv:=Qac V) (k:=t) (q:=g1) (c:=c9) (b:=bo) (d:=d) (e:=e) (t:=p) (by have:=hln.out;simp;omega) (by rw[<-hxc,<-hy];omega) (by rw[hp,hv]) hinv.out;rw[<-hc8,<-Qjb,Nat.add_comm i t] at hst;have HS:=hid hst;have E:=hid (And.intro e1 e2);have hit:((t:Int)+(i:Int)).toNat=t+i:=by omega
       clear hx hxc hv hat hp hgv hy hc8 e1 e2 hde hst
       go_wp2_with (go_at_call 284;refine HAT.out.mono ?_;rintro e w9 ⟨rfl,rfl⟩)
       rw[E.out.1,E.out.2];refine⟨⟨t+1,e,c8,nx.set (t+i) d,by omega,by go_num,rfl,he,rfl,hc2,hid (by have:=hln.out;simpa using this),Qcv on_ _ _ hd,hid (fun j hj=>by rw[axp (by omega)];exact hout.out j (by omega)),HS,hbn.set _ _,hbq.set_ne (by omega) _ _,hid (Qiu hrv.out (fun b off e=>by have:=hpvu.out b off e;omega) _ _),hBn.setCell (p:=⟨bu,t+i,none⟩) (by have:=hbuw.out;exact this) _⟩,by simp[intOf];omega⟩
      .obtain rfl:t=m+1:=by omega
       have hlt9:wv ((nx.drop i).take (m+1))<4294967296^(m+1):=by
        have h1:=Qgu (Qen (Qjn on_ i) (m+1));have h2:((nx.drop i).take (m+1)).length=m+1:=by have:=hln.out;simp;omega
        rwa[h2] at h1
       have hi9:=hinv.out;rw[axe (l:=Qac V) (by have:=hlv.out;omega),Qaq] at hi9;have hend:=Ktf hi9 HQ.out.symm hVp.out hlt9;have hlr:=Qkv (cur:=cur) (l':=nx) (m:=m) (by have:=hlc.out;omega) (by rw[hln.out,hlc.out]) hout.out (Nat.lt_trans hXV.out hVm.out);have hld:=Qku (V:=V) hVp.out (hsame.out i (by omega)) hmod.out hdiv.out (by have:=hlq.out;omega) (R:=g1) (by rw[<-HW.out];exact HQ.out);rw[<-HW.out,<-hend,<-hlr] at hld;have HE:=hid hld;clear hlt9 hi9 hend hlr hld hinv
       go_wp2_with fail
       refine⟨⟨i,nx,quo.set i g1,by omega,rfl,hln,on_,hid (by have:=hlq.out;simpa using this),Qcv oq _ _ hQ32,hid (fun j hj=>by rw[hout.out j (.inl hj)];exact hsame.out j (by omega)),hid HE.out.1,hid HE.out.2,hbn,hbq,hrv,hBn⟩,by simp[intOf]⟩
    .have hd1:decide (g1<=Q)=false:=by simp;omega
     rw[hd1] at HF
     go_wp2_with (refine HF.out.mono ?_;rintro e w9 ⟨rfl,hb9⟩)
     go_roundw
     case rel=>exact⟨g1-1,by go_num,by omega,by omega,hid (hbb.out.trans (hb9.mono hbb.out.size))⟩
     case measure=>simp[intOf];omega
def Qyj(a b:Nat)(va vb:Value)(w:World)(ha:WSl w va (Qac a))(hb:WSl w vb (Qac b))(hab:a<b)(hn:(Qac a).length<274877906944) :
  Calls prog 272 #[va,vb] w fun e w'=>∃ v1 v2,e=.returned (.tuple #[v1,v2])/\WSl w' v1 (Qac (a/b))/\WSl w' v2 (Qac (a%b))/\Below w.heap.size w w':=by
 have HN:=hid hn;have HA:=hid (And.intro ha hb);obtain⟨z,hz⟩:∃ z,z=Qdw a b:=⟨_,rfl⟩
 have hz0:z<0:=by rw[hz];exact Kgz hab
 have HU:=hid (fun(w:World) ha hb=>by have:=Qgw a b va vb w ha hb (by omega);rw[<-hz] at this;exact this);have HD:=hid hab;clear hz hab hn
 go_enter func272,Tryz.ntmps272
 go_wp2_with (go_at_call 235;refine(HU.out _ HA.out.1 HA.out.2).mono ?_;rintro e w' ⟨rfl,d,rfl⟩)
 go_ret2
 refine⟨_,_,rfl,?_,?_,Qbs br d⟩
 .rw[Nat.div_eq_of_lt HD.out,Qay];exact WSl.nil _
 .rw[Nat.mod_eq_of_lt HD.out];exact HA.out.1.drewN d
def Qyl(a b:Nat)(va vb:Value)(w:World)(ha:WSl w va (Qac a))(hb:WSl w vb (Qac b))(hab:b<=a)(h1:(Qac b).length=1)(hn:(Qac a).length<274877906944) :
  Calls prog 272 #[va,vb] w fun e w'=>∃ v1 v2,e=.returned (.tuple #[v1,v2])/\WSl w' v1 (Qac (a/b))/\WSl w' v2 (Qac (a%b))/\Below w.heap.size w w':=by
 have HN:=hid hn;have HA:=hid (And.intro ha hb);obtain⟨z,hz⟩:∃ z,z=Qdw a b:=⟨_,rfl⟩
 have hz0:¬z<0:=by rw[hz];exact Qvf hab
 have HU:=hid (fun(w:World) ha hb=>by have:=Qgw a b va vb w ha hb (by omega);rw[<-hz] at this;exact this);obtain⟨hb32,hbw⟩:=Kcm h1;have hb0:0<b:=by
  rcases axh b with h|h
  .rw[h,Qay] at h1;simp at h1
  .exact h
 obtain⟨pb,cb,rfl,hcb,hrb⟩:=hb;obtain⟨bb,ob,rfl,hbb,hcell⟩:=hrb (by rw[hbw];simp);have c0:=hcell 0 (by rw[h1];omega);rw[hbw] at c0;simp only[List.getElem?_cons_zero,Option.getD_some,Nat.add_zero] at c0;rw[h1] at HA HU ⊢;have hsh:=fun(w:World) (ha:WSl w va (Qac a))=>Kmv (Qac a) b va w (Qap a) hb0 hb32 ha (by omega)
 have hr32:a%b<4294967296:=Nat.lt_trans (Nat.mod_lt _ hb0) hb32;rw[Qaq] at hsh;have HS:=hid hsh;obtain⟨r,hr⟩:∃ r,r=a%b:=⟨_,rfl⟩
 have hw1:wv [r]=r:=by simp[wv]
 have hcut:=fun(w:World)=>Qfm [r] _ _ (by rw[Qdz];exact⟨by omega,Qfz⟩) ((Kfh w r).wsl (k:=1) (cap:=1) (by simp) (by omega)) (by simp)
 rw[hw1] at hcut;rw[<-hr] at HS ⊢ hr32;have HC:=hid hcut;clear hz hab hrb hcb hn hcell hbw h1 hr hcut hw1 ha hsh
 go_enter func272,Tryz.ntmps272
 go_wp2_with (first
  | (go_at_call 235;refine(HU.out _ HA.out.1 HA.out.2).mono ?_;rintro e w' ⟨rfl,d,rfl⟩)
  | (go_at_call 291;refine(HS.out _ (HA.out.1.drewN d)).mono ?_;rintro e w' ⟨v,rfl,hv,hb1⟩)
  | (go_at_call 260;refine(HC.out _).mono ?_;rintro e w' ⟨v2,rfl,hv2,rfl⟩))
 go_ret2
 refine⟨_,_,rfl,hv.below (br.alloc lr _),hv2,?_⟩;have h9:=(Qbs (Below.refl w.heap.size w) d).trans (hb1.mono (by simp));exact h9.alloc h9.size _
def Kbv(a b:Nat)(va vb:Value)(w:World)(ha:WSl w va (Qac a))(hb:WSl w vb (Qac b))(hb0:0<b)(hn:(Qac a).length<274877906944) :
  Calls prog 272 #[va,vb] w fun e w'=>∃ v1 v2,e=.returned (.tuple #[v1,v2])/\WSl w' v1 (Qac (a/b))/\WSl w' v2 (Qac (a%b))/\Below w.heap.size w w':=by
 by_cases hab:a<b
 .exact Qyj a b va vb w ha hb hab hn
 .by_cases h1:(Qac b).length=1
  .exact Qyl a b va vb w ha hb (by omega) h1 hn
  .have h2:2<=(Qac b).length:=by
    have:Qac b≠[]:=by intro h;have:=Qbz.1 h;omega
    have:=List.length_pos_iff.2 this;omega
   obtain⟨pa,ca,rfl,hra⟩:=ha;obtain⟨pb,cb,rfl,hrb⟩:=hb;exact Qyk a b _ _ rfl rfl h2 (by omega) pa pb ca cb w ⟨pa,ca,rfl,hra⟩ ⟨pb,cb,rfl,hrb⟩ hn
def divInt_parts{a b:Int}(hb:b≠0)(g:Int)(hg:g=if b<0 then -(Nat.gcd a.natAbs b.natAbs:Int) else(Nat.gcd a.natAbs b.natAbs:Int)):(Rat.divInt a b).num=a.tdiv g/\((Rat.divInt a b).den:Int)=b.tdiv g:=by
 have hgp:0<Nat.gcd a.natAbs b.natAbs:=Nat.gcd_pos_of_pos_right _ (by omega);have hpos:∀(n:Int) (d:Nat),d≠0->(Rat.divInt n d).num=n.tdiv (Nat.gcd n.natAbs d:Nat)/\((Rat.divInt n d).den:Int)=(d:Int).tdiv (Nat.gcd n.natAbs d:Nat):=by
  intro n d hd;rw[Rat.divInt_ofNat,<-Rat.normalize_eq_mkRat hd,Rat.normalize_eq];refine⟨?_,?_⟩
  .show n/((n.natAbs.gcd d:Nat):Int)=_;rw[Int.tdiv_eq_ediv_of_dvd];exact Int.ofNat_dvd_left.2 (Nat.gcd_dvd_left _ _)
  .show((d/n.natAbs.gcd d:Nat):Int)=_;rw[Int.ofNat_tdiv]
 by_cases h:b<0
 .rw[if_pos h] at hg;have e:b=-((b.natAbs:Nat):Int):=by omega
  have h1:=hpos (-a) b.natAbs (by omega);have e2:Rat.divInt a b=Rat.divInt (-a) (b.natAbs:Nat):=by
   conv=>lhs;rw[e]
   rw[Rat.divInt_neg']
  rw[Int.natAbs_neg] at h1;rw[e2,h1.1,h1.2,hg];refine⟨?_,?_⟩
  .rw[Int.neg_tdiv,Int.tdiv_neg]
  .conv=>rhs;rw[e]
   rw[Int.neg_tdiv_neg];simp
 .rw[if_neg h] at hg;have e:b=((b.natAbs:Nat):Int):=by omega
  have h1:=hpos a b.natAbs (by omega);have e2:Rat.divInt a b=Rat.divInt a (b.natAbs:Nat):=by rw[<-e]
  rw[e2,h1.1,h1.2,hg];refine⟨rfl,?_⟩;rw[<-e]
def Qlm(m:Nat)(q:Rat)(w w':World):Prop:=Mod m w w'/\∃ s1 s2,w'.heap[m]?=some (.cells #[.bool (decide (q.num<0)),s1,.bool false,s2] 232 (0,0))/\WSl w' s1 (Qac q.num.natAbs)/\WSl w' s2 (Qac q.den)
def Kip{m o:Nat}{C:Array Value}{T:TypeId}{z:Int}{w w':World}(h:Put m o C T z w w'):∃ C',w'.heap[m]?=some (.cells C' T (0,0))/\C'.size=C.size/\(NoW (.cells C T (0,0))->NoW (.cells C' T (0,0))):=by
 obtain⟨_,sl,h2,p,cap,rfl,_⟩:=h;refine⟨_,h2,by simp,fun hC=>?_⟩;intro cs T' fr e i k x hx;cases e;rw[Array.getElem?_setIfInBounds] at hx
 split at hx
 .split at hx<;>simp at hx
 .rw[Array.getElem?_setIfInBounds] at hx
  split at hx
  .split at hx<;>simp at hx
  .exact hC C T (0,0) rfl i k x hx
def Kaw{a b k:Nat}(h:a<=b)(hb:(Qac b).length<k):(Qac a).length<k:=axd (Qal (axd h (Qbr b))) hb
def Qce.cells{z:Int}{b o:Nat}{w:World}{A:Nat->Prop}(h:Qce z (.pointer (some ⟨b,o,none⟩)) w A):∃ p n c,b<w.heap.size/\w.cell? ⟨b,o,none⟩=some (.bool (decide (z<0)))/\w.cell? ⟨b,o+1,none⟩=some (.slice p n c)/\WSl w (.slice p n c) (Qac z.natAbs):=by
 obtain⟨b',o',sl,e,h1,_,h2,h3,h4⟩:=h;cases e;have h5:=h4.wsl;obtain⟨p,c,rfl,_⟩:=h4;exact⟨p,_,c,h1,h2,h3,h5⟩
def Qcx{w:World}{m i:Nat}{v:Value}{C:Array Value}{T:TypeId}{fr:Nat×Nat}(h:w.heap[m]?=some (.cells C T fr)):(w.setCell ⟨m,i,none⟩ v).heap[m]?=some (.cells (C.setIfInBounds i v) T fr):=by
 simp only[World.setCell,Array.getElem?_modify,if_true,h,Option.map_some];rfl
def Qez(m:Nat)(C:Array Value)(a b:Int)(hb0:b≠0)(va vb:Value)(A:Nat->Prop)(w:World)(hm:w.heap[m]?=some (.cells C 232 (0,0)))(hC4:C.size=4)(hC:NoW (.cells C 232 (0,0)))(ha:Qce a va w A)(hb:Qce b vb w A)(hna:(Qac a.natAbs).length<274877906944)(hnb:(Qac b.natAbs).length<274877906944) :
  Calls prog 223 #[.pointer (some ⟨m,0,none⟩),va,vb] w fun e w'=>e=.returned (.pointer (some ⟨m,0,none⟩))/\Qlm m (Rat.divInt a b) w w':=by
 have hmlt:m<w.heap.size:=(axa.1 hm).1;obtain⟨gn,hgn⟩:∃ gn,gn=Nat.gcd a.natAbs b.natAbs:=⟨_,rfl⟩
 have hgp:0<gn:=by rw[hgn];exact Nat.gcd_pos_of_pos_right _ (by omega)
 have hgle:gn<=b.natAbs:=by rw[hgn];exact Nat.le_of_dvd (by omega) (Nat.gcd_dvd_right _ _)
 have hlg:=Kaw hgle hnb
 -- the divisor
 let w1:=w.alloc (.cells #[.bool false,.slice none 0 0] 230);have hw1:Below w.heap.size w w1:=br.alloc lr _;have hG:=Ufg w.heap.size 0 _ _ a b va vb (.pointer none) (.pointer none) A w1 (heap_alloc_new w (.cells #[.bool false,.slice none 0 0] 230)) (by decide) Qbi (ha.below hw1) (hb.below hw1) hna hnb;rw[<-hgn] at hG;have HG:=hid hG;have HX:=hid (And.intro ha (And.intro hb hm));obtain⟨bb,ob,slb,rfl,hbb,_,d0,_,_⟩:=hb;have d0':=(hw1.cell (p:=⟨bb,ob,none⟩) hbb).trans d0;have hparts:=divInt_parts (a:=a) hb0 _ (by rw[<-hgn]);have HP:=hid hparts;clear hG ha hm hparts d0
 by_cases hneg:b<0
 .have e0:decide (b<0)=true:=by simpa using hneg
  rw[e0] at d0';clear e0
  go_enter func223,Tryz.ntmps223
  go_wp2_with fail
  refine HG.out.mono ?_;rintro e w2 ⟨rfl,hp⟩;have hg2:Qce (gn:Int) (.pointer (some ⟨w.heap.size,0,none⟩)) w2 NoA:=(hp.intP (by decide) (Qbt _)).noA;obtain⟨C2,hm2,hs2,hnw⟩:=Kip hp;have d1:=(World.cell?_of_block (w:=w1) (hp.1.block bb (by have:=hw1.size;omega) (by omega))).trans d0';have hN:=Kdg w.heap.size 0 C2 _ (gn:Int) _ NoA w2 hm2 (by rw[hs2];decide) (hnw Qbi) hg2 hlg;have HN:=hid hN;clear hN d0'
  go_wp2_with fail
  refine HN.out.mono ?_;rintro e w3 ⟨rfl,hp3⟩;obtain⟨gz,hgzd⟩:∃ gz:Int,gz=-(gn:Int):=⟨_,rfl⟩
  rw[<-hgzd] at hp3;obtain⟨W,hW⟩:∃ W,W=w3:=⟨_,rfl⟩
  rw[<-hW];have hgz:gz≠0:=by omega
  have hBW:Below w.heap.size w W:=by rw[hW];exact hw1.trans ((hp.1.trans hp3.1).below lr hw1.size)
  have hig:Qce gz (.pointer (some ⟨w.heap.size,0,none⟩)) W NoA:=by rw[hW];exact(hp3.intP (by rw[hs2];decide) (Qbt _)).noA
  have hP1:=HP.out;rw[if_pos hneg,<-hgzd] at hP1;have HP1:=hid hP1;have ha1:Qce a va W A:=HX.out.1.below hBW;have hb1:Qce b (.pointer (some ⟨bb,ob,none⟩)) W A:=HX.out.2.1.below hBW;have hal:Below W.heap.size W (W.alloc (.cells #[.bool false,.slice none 0 0] 230)):=br.alloc lr _;have hQ1:=Qrq W.heap.size 0 _ _ a gz hgz va _ NoA _ (heap_alloc_new W (.cells #[.bool false,.slice none 0 0] 230)) (by decide) Qbi (ha1.below hal).noA ((hig.below hal)) hna;have HQ1:=hid hQ1;clear hW hQ1 hP1 hal
  go_wp2_with fail
  refine HQ1.out.mono ?_;rintro e W2 ⟨rfl,hp1⟩;have hn1:Kcz (a.tdiv gz) (.pointer (some ⟨W.heap.size,0,none⟩)) W W2:=hp1.new (by decide);have hal:Below W2.heap.size W2 (W2.alloc (.cells #[.bool false,.slice none 0 0] 230)):=br.alloc lr _;have hQ2:=Qrq W2.heap.size 0 _ _ b gz hgz _ _ NoA _ (heap_alloc_new W2 (.cells #[.bool false,.slice none 0 0] 230)) (by decide) Qbi ((hb1.below hn1.1).below hal).noA (((hig.below hn1.1).below hal)) hnb;have HQ2:=hid hQ2;clear hQ2
  go_wp2_with fail
  refine HQ2.out.mono ?_;rintro e W3 ⟨rfl,hp2⟩;have hn2:Kcz (b.tdiv gz) (.pointer (some ⟨W2.heap.size,0,none⟩)) W2 W3:=hp2.new (by decide);have hb3:Below w.heap.size w W3:=hBW.trans ((hn1.1.trans (hn2.1.mono hn1.1.size)).mono hBW.size);obtain⟨p1,n1,c1,b1,e1,e2,e3⟩:=((hn1.2 NoA (Qbt _)).below hn2.1).cells;obtain⟨p2,n2,c2,b2,e4,e5,e6⟩:=(hn2.2 NoA (Qbt _)).cells;have hm3:=(hb3.block m hmlt).trans HX.out.2.2;have hq:Hid (decide ((Rat.divInt a b).num<0)=decide (a.tdiv gz<0)/\decide (b.tdiv gz<0)=false/\(Rat.divInt a b).num.natAbs=(a.tdiv gz).natAbs/\(Rat.divInt a b).den=(b.tdiv gz).natAbs):=hid (by
   obtain⟨h1,h2⟩:=HP1.out;rw[h1,<-h2];simp)
  have hne1:W.heap.size≠m:=by have:=hBW.size;omega
  have hne2:W2.heap.size≠m:=by have:=hBW.size;have:=hn1.1.size;omega
  rw[hq.out.2.1] at e4;obtain⟨nb,hnb'⟩:∃ nb,nb=decide (a.tdiv gz<0):=⟨_,rfl⟩
  rw[<-hnb'] at e1 hq;clear hnb' HQ1 HQ2 hp1 hp2 hn1 hn2 hig ha1 hb1;have HW:=hid (And.intro hb3 (And.intro hm3 (And.intro e3 e6)));obtain⟨x0,x1,x2,x3,hCe⟩:∃ x0 x1 x2 x3,C=#[x0,x1,x2,x3]:=by
   obtain⟨l⟩:=C
   match l,hC4 with
   | [x0,x1,x2,x3],_=>exact⟨x0,x1,x2,x3,rfl⟩
  rw[hCe] at hm3;have f0:W3.cell? ⟨m,0,none⟩=some x0/\W3.cell? ⟨m,1,none⟩=some x1/\W3.cell? ⟨m,2,none⟩=some x2/\W3.cell? ⟨m,3,none⟩=some x3:=by simp[World.cell?,hm3]
  obtain⟨f0,f1,f2,f3⟩:=f0;have g0:∀ i,W3.frozen? ⟨m,i,none⟩=false:=fun i=>by simp[World.frozen?,hm3]
  have g1:=g0 0;have g2:=g0 1;have g3:=g0 2;have g4:=g0 3;clear hm3 g0 e3 e6 hb3
  go_wp2_with fail
  go_region
  go_wp2
  go_ret
  have hm5:Mod m W3 ((((W3.setCell ⟨m,0,none⟩ (.bool nb)).setCell ⟨m,1,none⟩ (.slice p1 n1 c1)).setCell ⟨m,2,none⟩ (.bool false)).setCell ⟨m,3,none⟩ (.slice p2 n2 c2)).drew:=Mod.drewN (((((Mod.refl m W3).setCell 0 _).setCell 1 _).setCell 2 _).setCell 3 _) 1;refine⟨rfl,(Mod.of_below HW.out.1).trans hm5,.slice p1 n1 c1,.slice p2 n2 c2,?_,?_,?_⟩
  .rw[hq.out.1];have:=HW.out.2.1;rw[hCe] at this;exact Qcx (i:=3) (Qcx (i:=2) (Qcx (i:=1) (Qcx (i:=0) this)))
  .rw[hq.out.2.2.1];exact WSl.mod HW.out.2.2.1 hm5 HW.out.2.1 hC
  .rw[hq.out.2.2.2];exact WSl.mod HW.out.2.2.2 hm5 HW.out.2.1 hC
 .have e0:decide (b<0)=false:=by simpa using hneg
  rw[e0] at d0';clear e0
  go_enter func223,Tryz.ntmps223
  go_wp2_with fail
  refine HG.out.mono ?_;rintro e w2 ⟨rfl,hp⟩;have d1:=(World.cell?_of_block (w:=w1) (hp.1.block bb (by have:=hw1.size;omega) (by omega))).trans d0';clear d0';obtain⟨gz,hgzd⟩:∃ gz:Int,gz=(gn:Int):=⟨_,rfl⟩
  rw[<-hgzd] at hp;obtain⟨W,hW⟩:∃ W,W=w2:=⟨_,rfl⟩
  rw[<-hW];have d1:W.cell? ⟨bb,ob,none⟩=some (.bool false):=by rw[hW];exact d1
  have hgz:gz≠0:=by omega
  have hBW:Below w.heap.size w W:=by rw[hW];exact hw1.trans (hp.1.below lr hw1.size)
  have hig:Qce gz (.pointer (some ⟨w.heap.size,0,none⟩)) W NoA:=by rw[hW];exact(hp.intP (by decide) (Qbt _)).noA
  have hP1:=HP.out;rw[if_neg (show ¬b<0 by omega),<-hgzd] at hP1;have HP1:=hid hP1;have ha1:Qce a va W A:=HX.out.1.below hBW;have hb1:Qce b (.pointer (some ⟨bb,ob,none⟩)) W A:=HX.out.2.1.below hBW;have hal:Below W.heap.size W (W.alloc (.cells #[.bool false,.slice none 0 0] 230)):=br.alloc lr _;have hQ1:=Qrq W.heap.size 0 _ _ a gz hgz va _ NoA _ (heap_alloc_new W (.cells #[.bool false,.slice none 0 0] 230)) (by decide) Qbi (ha1.below hal).noA ((hig.below hal)) hna;have HQ1:=hid hQ1;clear hW hQ1 hP1 hal
  go_wp2_with fail
  refine HQ1.out.mono ?_;rintro e W2 ⟨rfl,hp1⟩;have hn1:Kcz (a.tdiv gz) (.pointer (some ⟨W.heap.size,0,none⟩)) W W2:=hp1.new (by decide);have hal:Below W2.heap.size W2 (W2.alloc (.cells #[.bool false,.slice none 0 0] 230)):=br.alloc lr _;have hQ2:=Qrq W2.heap.size 0 _ _ b gz hgz _ _ NoA _ (heap_alloc_new W2 (.cells #[.bool false,.slice none 0 0] 230)) (by decide) Qbi ((hb1.below hn1.1).below hal).noA (((hig.below hn1.1).below hal)) hnb;have HQ2:=hid hQ2;clear hQ2
  go_wp2_with fail
  refine HQ2.out.mono ?_;rintro e W3 ⟨rfl,hp2⟩;have hn2:Kcz (b.tdiv gz) (.pointer (some ⟨W2.heap.size,0,none⟩)) W2 W3:=hp2.new (by decide);have hb3:Below w.heap.size w W3:=hBW.trans ((hn1.1.trans (hn2.1.mono hn1.1.size)).mono hBW.size);obtain⟨p1,n1,c1,b1,e1,e2,e3⟩:=((hn1.2 NoA (Qbt _)).below hn2.1).cells;obtain⟨p2,n2,c2,b2,e4,e5,e6⟩:=(hn2.2 NoA (Qbt _)).cells;have hm3:=(hb3.block m hmlt).trans HX.out.2.2;have hq:Hid (decide ((Rat.divInt a b).num<0)=decide (a.tdiv gz<0)/\decide (b.tdiv gz<0)=false/\(Rat.divInt a b).num.natAbs=(a.tdiv gz).natAbs/\(Rat.divInt a b).den=(b.tdiv gz).natAbs):=hid (by
   obtain⟨h1,h2⟩:=HP1.out;rw[h1,<-h2];simp)
  have hne1:W.heap.size≠m:=by have:=hBW.size;omega
  have hne2:W2.heap.size≠m:=by have:=hBW.size;have:=hn1.1.size;omega
  rw[hq.out.2.1] at e4;obtain⟨nb,hnb'⟩:∃ nb,nb=decide (a.tdiv gz<0):=⟨_,rfl⟩
  rw[<-hnb'] at e1 hq;clear hnb' HQ1 HQ2 hp1 hp2 hn1 hn2 hig ha1 hb1;have HW:=hid (And.intro hb3 (And.intro hm3 (And.intro e3 e6)));obtain⟨x0,x1,x2,x3,hCe⟩:∃ x0 x1 x2 x3,C=#[x0,x1,x2,x3]:=by
   obtain⟨l⟩:=C
   match l,hC4 with
   | [x0,x1,x2,x3],_=>exact⟨x0,x1,x2,x3,rfl⟩
  rw[hCe] at hm3;have f0:W3.cell? ⟨m,0,none⟩=some x0/\W3.cell? ⟨m,1,none⟩=some x1/\W3.cell? ⟨m,2,none⟩=some x2/\W3.cell? ⟨m,3,none⟩=some x3:=by simp[World.cell?,hm3]
  obtain⟨f0,f1,f2,f3⟩:=f0;have g0:∀ i,W3.frozen? ⟨m,i,none⟩=false:=fun i=>by simp[World.frozen?,hm3]
  have g1:=g0 0;have g2:=g0 1;have g3:=g0 2;have g4:=g0 3;clear hm3 g0 e3 e6 hb3
  go_wp2_with fail
  go_region
  go_wp2
  go_ret
  have hm5:Mod m W3 ((((W3.setCell ⟨m,0,none⟩ (.bool nb)).setCell ⟨m,1,none⟩ (.slice p1 n1 c1)).setCell ⟨m,2,none⟩ (.bool false)).setCell ⟨m,3,none⟩ (.slice p2 n2 c2)).drew:=Mod.drewN (((((Mod.refl m W3).setCell 0 _).setCell 1 _).setCell 2 _).setCell 3 _) 1;refine⟨rfl,(Mod.of_below HW.out.1).trans hm5,.slice p1 n1 c1,.slice p2 n2 c2,?_,?_,?_⟩
  .rw[hq.out.1];have:=HW.out.2.1;rw[hCe] at this;exact Qcx (i:=3) (Qcx (i:=2) (Qcx (i:=1) (Qcx (i:=0) this)))
  .rw[hq.out.2.2.1];exact WSl.mod HW.out.2.2.1 hm5 HW.out.2.1 hC
  .rw[hq.out.2.2.2];exact WSl.mod HW.out.2.2.2 hm5 HW.out.2.1 hC
end Go.Proofs.YtmimficdpfmfgaaGreat
namespace Tr
def RL(q:Rat)(k:Nat):Prop:=(Qac q.num.natAbs).length<=k/\(Qac q.den).length<=k
def RL.mono{q:Rat}{k l:Nat}(h:RL q k)(hl:k<=l):RL q l:=⟨axw h.1 hl,axw h.2 hl⟩
def Qfu{a b k l:Nat}(ha:(Qac a).length<=k)(hb:(Qac b).length<=l):(Qac (a*b)).length<=k+l:=by
 refine Qal ?_;have h1:=axc (Qbr a) (axg (by decide) ha);have h2:=axc (Qbr b) (axg (by decide) hb);rw[Nat.pow_add];exact Nat.mul_lt_mul'' h1 h2
def Kcl{a b k:Nat}(ha:(Qac a).length<=k)(hb:(Qac b).length<=k):(Qac (a+b)).length<=k+1:=by
 refine Qal ?_;have h1:=axc (Qbr a) (axg (by decide) ha);have h2:=axc (Qbr b) (axg (by decide) hb);rw[Nat.pow_succ];omega
def Qfc{a b k:Nat}(h:a<=b)(hb:(Qac b).length<=k):(Qac a).length<=k:=axw (Qal (axd h (Qbr b))) hb
def Qjz{a b:Int}(hb:b≠0){k:Nat}(h1:(Qac a.natAbs).length<=k)(h2:(Qac b.natAbs).length<=k):RL (Rat.divInt a b) k:=by
 have:=Go.Proofs.YtmimficdpfmfgaaGreat.divInt_parts (a:=a) hb _ rfl;refine⟨Qfc ?_ h1,Qfc ?_ h2⟩
 .rw[this.1,Int.natAbs_tdiv];exact Nat.div_le_self _ _
 .have h3:(Rat.divInt a b).den=(b.tdiv (if b<0 then -((a.natAbs.gcd b.natAbs:Nat):Int) else((a.natAbs.gcd b.natAbs:Nat):Int))).natAbs:=by rw[<-this.2];simp
  rw[h3,Int.natAbs_tdiv];exact Nat.div_le_self _ _
def Qfr{q:Rat}:(q.den:Int)≠0:=by have:=q.den_nz;omega
def Qon(x y:Rat):Rat.divInt (x.num*y.num) ((x.den:Int)*(y.den:Int))=x*y:=by
 rw[<-Rat.divInt_mul_divInt,Rat.num_divInt_den,Rat.num_divInt_den]
def Qad{x y:Rat}{k l:Nat}(hx:RL x k)(hy:RL y l):RL (x*y) (k+l):=by
 rw[<-Qon];refine Qjz (Int.mul_ne_zero Qfr Qfr) ?_ ?_
 .rw[axm];exact Qfu hx.1 hy.1
 .rw[axm];exact Qfu (by simpa using hx.2) (by simpa using hy.2)
def Qoe(x y:Rat):Rat.divInt (x.num*(y.den:Int)+y.num*(x.den:Int)) ((x.den:Int)*(y.den:Int))=x+y:=by
 rw[<-Rat.divInt_add_divInt _ _ Qfr Qfr,Rat.num_divInt_den,Rat.num_divInt_den]
def Kmw(x y:Rat):Rat.divInt (x.num*(y.den:Int)-y.num*(x.den:Int)) ((x.den:Int)*(y.den:Int))=x-y:=by
 rw[Int.sub_eq_add_neg,<-Int.neg_mul,<-Rat.divInt_add_divInt _ _ Qfr Qfr,Rat.num_divInt_den,<-Rat.neg_divInt,Rat.num_divInt_den,Rat.sub_eq_add_neg]
def Qaz{x y:Rat}{k l:Nat}(hx:RL x k)(hy:RL y l):RL (x+y) (k+l+1):=by
 rw[<-Qoe];refine Qjz (Int.mul_ne_zero Qfr Qfr) ?_ ?_
 .refine Qfc (Int.natAbs_add_le _ _) (Kcl ?_ ?_)
  .rw[axm];exact Qfu hx.1 (by simpa using hy.2)
  .rw[axm,Nat.add_comm];exact Qfu hy.1 (by simpa using hx.2)
 .rw[axm];exact axw (Qfu (by simpa using hx.2) (by simpa using hy.2)) (by omega)
def Qah{x:Rat}{k:Nat}(h:RL x k):RL (-x) k:=⟨by rw[Rat.neg_num,Int.natAbs_neg];exact h.1,by rw[Rat.neg_den];exact h.2⟩
def Qcb{x y:Rat}{k l:Nat}(hx:RL x k)(hy:RL y l):RL (x-y) (k+l+1):=by rw[Rat.sub_eq_add_neg];exact Qaz hx (Qah hy)
def Qks(x:Rat):Rat.divInt (x.den:Int) x.num=x⁻¹:=by
 rw[Rat.inv_def]
def Qca{x:Rat}(h0:x≠0){k:Nat}(h:RL x k):RL x⁻¹ k:=by
 rw[<-Qks];exact Qjz (fun h1=>h0 (Rat.num_eq_zero.1 h1)) (by simpa using h.2) h.1
end Tr
namespace Go.Proofs.YtmimficdpfmfgaaGreat
open Go.RowKit Tr Proofs.Tryz
def Qlm.ratP{m:Nat}{q:Rat}{w w':World}(h:Qlm m q w w'){A:Nat->Prop}(hA:Rcv A w):Qbk q (.pointer (some ⟨m,0,none⟩)) w' (fun b=>A b/\b≠m):=by
 obtain⟨h1,s1,s2,h2,h3,h4⟩:=h;have hlt:=(axa.1 h2).1;have hA':Rcv (fun b=>A b/\b≠m) w':=fun b hb=>by
  obtain⟨zz,k1,k2⟩:=hA b hb.1;exact⟨zz,(h1.block b (axa.1 k1).1 hb.2).trans k1,k2⟩
 refine⟨m,rfl,⟨m,0,s1,rfl,hlt,fun h=>h.2 rfl,by simp[World.cell?,h2],by simp[World.cell?,h2],h3.avoids hA'⟩,.inl ⟨m,2,s2,rfl,hlt,fun h=>h.2 rfl,?_,by simp[World.cell?,h2],?_⟩⟩
 .have:decide ((q.den:Int)<0)=false:=by simp
  rw[this];simp[World.cell?,h2]
 .exact WSl.avoids h4 hA'
def Qlm.below{m:Nat}{q:Rat}{w w1 w':World}(h:Qlm m q w1 w')(hb:Below w.heap.size w w1):Qlm m q w w':=⟨(Mod.of_below hb).trans h.1,h.2⟩
def Qfa(q:Rat)(vx:Value)(A:Nat->Prop)(w:World)(hx:Qbk q vx w A)(hA:Rcv A w) :
  Calls prog 226 #[vx] w fun e w'=>∃ v,e=.returned v/\Below w.heap.size w w'/\Qce q.den v w' A:=by
 obtain⟨b,rfl,_,hd⟩:=hx;rcases hd with hd|⟨h0,hd⟩
 .obtain⟨p,n,c,h1,h2,h3,h4⟩:=hd.cells;have hn:n=(Qac q.den).length:=by obtain⟨p',c',e,_⟩:=h4;cases e;simp
  have hpos:((n:Int)==0)=false:=by
   have:(Qac q.den)≠[]:=fun h=>q.den_nz (Qbz.1 h)
   have:=List.length_pos_iff.2 this;simp;omega
  have HD:=hid hd;clear hd h2 h4 hn
  go_enter func226,Tryz.ntmps226
  go_wp2
  go_ret
  exact⟨_,rfl,Below.refl _ _,HD.out⟩
 .obtain⟨p,n,c,h1,h2,h3,h4⟩:=hd.cells;have hn:n=0:=by obtain⟨p',c',e,_⟩:=h4;cases e;simp[Qay]
  subst hn;have hN:=fun w=>Qgv 1 (by decide) (by decide) w
  have HN:=hid hN;have HQ:=hid h0;clear hN hd h2 h4 h0
  go_enter func226,Tryz.ntmps226
  go_wp2_with (go_at_call 247;refine(HN.out _).mono ?_;rintro e w' ⟨v,rfl,hb,hi⟩)
  go_ret
  refine⟨v,rfl,hb,?_⟩;rw[HQ.out];exact hi A hA
def Qwz(q:Rat)(vx:Value)(A:Nat->Prop)(w:World)(hx:Qbk q vx w A)(hl:RL q 137438953472) :
  Calls prog 210 #[vx] w fun e w'=>∃ v,e=.returned v/\Kcz q.num v w w':=by
 obtain⟨b,rfl,hn,_⟩:=hx;have hb:Below w.heap.size w (w.alloc (.cells #[.bool false,.slice none 0 0] 230)):=br.alloc lr _;have hS:=Qmb w.heap.size 0 _ _ q.num _ A _ (heap_alloc_new w (.cells #[.bool false,.slice none 0 0] 230)) (by decide) Qbi (hn.below hb) (by have:=hl.1;omega);have HS:=hid hS;clear hS hn
 go_enter func210,Tryz.ntmps210
 go_wp2_with (go_at_call 255;refine HS.out.mono ?_;rintro e w' ⟨rfl,hp⟩)
 go_ret
 exact⟨_,rfl,hp.new (by decide)⟩
def Qmj(q:Rat)(vx:Value)(A:Nat->Prop)(w:World)(hx:Qbk q vx w A)(hl:RL q 137438953472) :
  Calls prog 212 #[vx] w fun e w'=>∃ v,e=.returned v/\Kcz q.den v w w':=by
 have hx:=hx.noA;have hb:Below w.heap.size w (w.alloc (.cells #[.bool false,.slice none 0 0] 230)):=br.alloc lr _;have hD:=Qfa q vx NoA _ (hx.below hb) (Qbt _);have HD:=hid hD;have hlen:(Qac (q.den:Int).natAbs).length<274877906944:=by have:=hl.2;simp;omega
 clear hD hx
 go_enter func212,Tryz.ntmps212
 go_wp2_with fail
 refine HD.out.mono ?_;rintro e w1 ⟨v,rfl,hb1,hi⟩;have hm:w1.heap[w.heap.size]?=some (.cells #[.bool false,.slice none 0 0] 230 (0,0)):=(hb1.block _ (by simp)).trans (heap_alloc_new w _);have hS:=Qmb w.heap.size 0 _ _ q.den v NoA w1 hm (by decide) Qbi hi hlen;have HS:=hid hS;clear hS hm
 go_wp2_with (go_at_call 255;refine HS.out.mono ?_;rintro e w' ⟨rfl,hp⟩)
 go_ret
 exact⟨_,rfl,(hp.below hb1).new (by decide)⟩
def Qgx(q:Rat)(vx:Value)(A:Nat->Prop)(w:World)(hx:Qbk q vx w A) :
  Calls prog 78 #[vx] w fun e w'=>e=.returned (.int .i64 q.num.sign)/\w=w':=by
 obtain⟨b,rfl,hn,_⟩:=hx;have HS:=hid (Qxc q.num _ A w hn);clear hn
 go_enter func78,Tryz.ntmps78
 go_wp2_with (go_at_call 176;refine HS.out.mono ?_;rintro e w' ⟨rfl,rfl⟩)
 go_ret
 exact⟨rfl,rfl⟩
def Qdk{R:Qcq}(hk:R.Keeps){v:Value}{w w1:World}{A1:Nat->Prop}(h:R v w NoA)(h1:Below w.drew.heap.size w.drew w1)(hN:∀ b,A1 b->w.drew.heap.size<=b):R v w1 A1 :=
 hk v w w1 NoA A1 h1.size (fun b hb _=>⟨h1.block b hb,fun hA=>absurd (hN b hA) (Nat.not_le.2 hb)⟩) h
def Qce.shape{z:Int}{v:Value}{w:World}{A:Nat->Prop}(h:Qce z v w A):∃ b o,v=.pointer (some ⟨b,o,none⟩):=by obtain⟨b,o,_,e,_⟩:=h;exact⟨b,o,e⟩
def Qbk.shape{q:Rat}{v:Value}{w:World}{A:Nat->Prop}(h:Qbk q v w A):∃ b,v=.pointer (some ⟨b,0,none⟩):=by obtain⟨b,e,_⟩:=h;exact⟨b,e⟩
abbrev zI:Obj:=.cells #[.bool false,.slice none 0 0] 230 (0,0)
def Kgn(m:Nat)(C:Array Value)(x y:Rat)(vx vy:Value)(A:Nat->Prop)(w:World)(hm:w.heap[m]?=some (.cells C 232 (0,0)))(hC4:C.size=4)(hC:NoW (.cells C 232 (0,0)))(hx:Qbk x vx w A)(hy:Qbk y vy w A)(k l:Nat)(hlx:RL x k)(hly:RL y l)(hkl:k+l<137438953472) :
  Calls prog 216 #[.pointer (some ⟨m,0,none⟩),vx,vy] w fun e w'=>e=.returned (.pointer (some ⟨m,0,none⟩))/\Qlm m (x*y) w w':=by
 have hx:=hx.noA;have hy:=hy.noA;obtain⟨b,rfl⟩:=hx.shape;obtain⟨b2,rfl⟩:=hy.shape;have hmlt:m<w.heap.size:=(axa.1 hm).1;obtain⟨_,eb,hxn,_⟩:=id hx;cases eb;obtain⟨_,eb,hyn,_⟩:=id hy;cases eb;have HM:=hid (And.intro hm hC);clear hm hC
 go_enter func216,Tryz.ntmps216
 go_wp2_with fail
 refine Qav [(.lit,[]),(.new zI,[]),(.lit,[]),(.lit,[]),(.lit,[]),(.lit,[]),(.lit,[]),(.lit,[]),(.on 1 zI,[]),(.new zI,[]),(.lit,[]),(.val,[]),(.lit,[]),(.val,[]),(.on 9 zI,[11,13])]
  (Qfj [(8,Qce (x.num*y.num)),(11,Qce x.den),(13,Qce y.den),(14,Qce ((x.den:Int)*(y.den:Int)))]) kR ?_ ?_ (by simp[Qbi]) (by simp) kR
 .exact Qbh (by simp[Qce.keeps])
 .refine⟨_,fun f w1 h1=>by go_simp;rfl,?_⟩;refine⟨fun f w1=>by go_simp,?_⟩
  repeat (refine⟨_,fun f w1 h1=>by go_simp;rfl,?_⟩)
  simp only[Act.put,nrA,nrB,nrC,Nat.reduceAdd];refine⟨fun f w1 A1 m1 h1 hA hN hAm hm0 e hz hd K hK=>by
   simp only[e] at hK ⊢
   go_simp
   refine(Qgm m1 0 _ _ x.num y.num _ _ A1 w1 hz (by decide) Qbi (Qdk (Qce.keeps _) hxn h1 hN) (Qdk (Qce.keeps _) hyn h1 hN) (by have:=hlx.1;omega) (by have:=hly.1;omega)).mono ?_;rintro e w' ⟨rfl,hp⟩;exact hK _ w' hp.1 (hp.intP (by decide) hA),?_⟩
  refine⟨fun f w1=>by go_simp,?_⟩;refine⟨_,fun f w1 h1=>by go_simp;rfl,?_⟩;simp only[Act.put,nrA,nrB,nrC,Nat.reduceAdd];refine⟨fun f w1 A1 h1 hA hN hd K hK=>by
   go_simp
   refine(Qfa x _ A1 w1 (Qdk (Qbk.keeps _) hx h1 hN) hA).mono ?_;rintro e w' ⟨v,rfl,hb,hi⟩;exact hK _ _ hb hi,?_⟩
  refine⟨_,fun f w1 h1=>by go_simp;rfl,?_⟩;simp only[Act.put,nrA,nrB,nrC,Nat.reduceAdd];refine⟨fun f w1 A1 h1 hA hN hd K hK=>by
   go_simp
   refine(Qfa y _ A1 w1 (Qdk (Qbk.keeps _) hy h1 hN) hA).mono ?_;rintro e w' ⟨v,rfl,hb,hi⟩;exact hK _ _ hb hi,?_⟩
  simp only[Act.put,nrA,nrB,nrC,Nat.reduceAdd];refine⟨fun f w1 A1 m1 h1 hA hN hAm hm0 e hz hd K hK=>by
   simp only[e] at hK ⊢;have i1:Qce x.den (f 11) w1 A1:=hd 11 (by simp);have i2:Qce y.den (f 13) w1 A1:=hd 13 (by simp)
   go_simp
   refine(Qgm m1 0 _ _ x.den y.den _ _ A1 w1 hz (by decide) Qbi i1 i2 (by have:=hlx.2;simp;omega) (by have:=hly.2;simp;omega)).mono ?_;rintro e w' ⟨rfl,hp⟩;exact hK _ w' hp.1 (hp.intP (by decide) hA),?_⟩
  intro f w1 h1 hF;have i1:Qce (x.num*y.num) (f 8) w1 NoA:=hF.1.1.1.2;have i2:Qce ((x.den:Int)*(y.den:Int)) (f 14) w1 NoA:=hF.2;clear hF;simp only[Act.put,nrA,nrB,nrC];generalize f 8=v8 at *
  generalize f 14=v14 at *
  have hbw:Below w.heap.size w w1:=br.drew.trans h1;have hS:=Qez m C _ _ (Int.mul_ne_zero Qfr Qfr) _ _ NoA w1 ((h1.block m hmlt).trans HM.out.1) hC4 HM.out.2 i1 i2 (by rw[axm];have:=Qfu hlx.1 hly.1;omega) (by rw[axm];have:=Qfu (a:=(x.den:Int).natAbs) (b:=(y.den:Int).natAbs) (by simpa using hlx.2) (by simpa using hly.2);omega);rw[Qon] at hS;have HS:=hid hS;clear hS i1 i2 hx hy hxn hyn
  go_wp2_with (go_at_call 223;refine HS.out.mono ?_;rintro e w' ⟨rfl,hp⟩)
  go_ret
  exact⟨rfl,hp.below hbw⟩
