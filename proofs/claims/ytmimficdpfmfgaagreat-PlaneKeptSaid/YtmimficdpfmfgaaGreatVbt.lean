/- Laws for the walk. -/
import Derived.Test.YtmimficdpfmfgaaGreatVbs
set_option linter.unusedVariables false
set_option linter.unusedSimpArgs false
set_option maxHeartbeats 4000000
set_option maxRecDepth 100000
namespace Go.Proofs.YtmimficdpfmfgaaGreat
open Go.RowKit Tr
open Classical
def Bt(z:QC):Prop:=BQ z.re 40 40∧BQ z.im 40 40
theorem Bt.cz{z:QC}(h:Bt z):CZ z 80 80:=CZ.of h.1 h.2 (by omega) (by omega)
theorem nm_comm'(z w:QC):nm (z - w)=nm (w - z):=by simp only[nm,qsr,qsi]; grind
theorem far1_cm(z w:QC):far1 z w=far1 w z:=by
 unfold far1
 rw[nm_comm' z w,Rat.mul_comm z.im]
theorem far2_cm(z w:QC):far2 z w=far2 w z:=by
 unfold far2
 rw[nm_comm' z w,Rat.mul_comm (1 - nm z)]
theorem nm_self(z:QC):nm (z - z)=0:=by simp only[nm,qsr,qsi]; grind
theorem far1_one{z w:QC}(hz:0<z.im)(hw:0<w.im):far1 z w=1↔z=w:=by
 constructor
 ·intro h
  apply Classical.byContradiction
  intro hn
  have a:=nm_pos hn
  have b:=dpos (Qjk hz hw)
  have c:0<nm (z - w) / (z.im*w.im+z.im*w.im):=by rw[Rat.div_def]; exact Qjk a (Rat.inv_pos.2 b)
  unfold far1 at h
  grind
 ·rintro rfl
  unfold far1
  rw[nm_self]; grind
theorem far2_one{z w:QC}(hz:0<1 - nm z)(hw:0<1 - nm w):far2 z w=1↔z=w:=by
 constructor
 ·intro h
  apply Classical.byContradiction
  intro hn
  have a:=nm_pos hn
  have b:=Qjk hz hw
  have c:0<(nm (z - w)+nm (z - w)) / ((1 - nm z)*(1 - nm w)):=by rw[Rat.div_def]; exact Qjk (dpos a) (Rat.inv_pos.2 b)
  unfold far2 at h
  grind
 ·rintro rfl
  unfold far2
  rw[nm_self]; grind
theorem far1_sh{z w:QC}(bz:Bt z)(bw:Bt w)(hz:0<z.im)(hw:0<w.im):Qal (far1 z w):=by
 have n:=BQ.nm (bz.cz.sub bw.cz (r:=161) (by omega) (by omega))
 have h:=bz.2.mul bw.2
 have d:=h.add h (r:=161) (by omega) (by omega)
 exact((BQ.int 1 1 (by decide)).add (n.div d (pne (dpos (Qjk hz hw)))) (r:=600) (by omega) (by omega)).short (by omega) (by omega)
theorem far2_sh{z w:QC}(bz:Bt z)(bw:Bt w)(hz:0<1 - nm z)(hw:0<1 - nm w):Qal (far2 z w):=by
 have n:=BQ.nm (bz.cz.sub bw.cz (r:=161) (by omega) (by omega))
 have m:=n.add n (r:=644) (by omega) (by omega)
 have one:BQ (1:Rat) 1 1:=BQ.int 1 1 (by decide)
 have x:=one.sub (BQ.nm bz.cz) (r:=163) (by omega) (by omega)
 have y:=one.sub (BQ.nm bw.cz) (r:=163) (by omega) (by omega)
 exact(one.add (m.div (x.mul y) (pne (Qjk hz hw))) (r:=2000) (by omega) (by omega)).short (by omega) (by omega)
theorem fr1{z w:QC}(sz:Qab z)(sw:Qab w)(hz:0<z.im)(hw:0<w.im)(h:Qal (far1 z w)):SCt 36 [gIi 1,.row ((Qad z).cells),.row ((Qad w).cells)] (.tup [.row (rF (far1 z w)),gIi 0]):=(pFar1' z w sz sw (npsg hz) (npsg hw)).t h
theorem fr2{z w:QC}(sz:Qab z)(sw:Qab w)(hz:0<1 - nm z)(hw:0<1 - nm w)(h:Qal (far2 z w)):SCt 36 [gIi 2,.row ((Qad z).cells),.row ((Qad w).cells)] (.tup [.row (rF (far2 z w)),gIi 0]):=(pFar2' z w sz sw (npsg hz) (npsg hw)).t h
theorem at4{m:Q4}{z x:QC}(hm:MapOk m)(sz:Qab z)(hd:den false m.2.2.1 m.2.2.2 z≠⟨0,0⟩)(e:snd false m.1 m.2.1 m.2.2.1 m.2.2.2 z=x)(sx:Qab x) :
  SCt 53 [.row ((Qad m.1).cells++(Qad m.2.1).cells++(Qad m.2.2.1).cells++(Qad m.2.2.2).cells++[gl (.bool false)]),.row ([gl (.bool false)]++(Qad z).cells)] (.tup [.row ([gl (.bool false)]++(Qad x).cells),gIi 0]):=by
 subst e
 exact(mAt m.1 m.2.1 m.2.2.1 m.2.2.2 z hm.1.1 hm.1.2.1 hm.1.2.2.1 hm.1.2.2.2 sz hd hm).t sx
section
variable{r t:Rat}{z w:QC}
theorem aff_ok(hr:0<r)(sm:Sh4 ((⟨r,0⟩:QC),(⟨t,0⟩:QC),(⟨0,0⟩:QC),(⟨1,0⟩:QC))):MapOk ((⟨r,0⟩:QC),(⟨t,0⟩:QC),(⟨0,0⟩:QC),(⟨1,0⟩:QC)):=⟨sm,.inr ⟨rfl,rfl⟩,dq_aff (pne hr)⟩
theorem den1_ne(z:QC):den false (⟨0,0⟩:QC) (⟨1,0⟩:QC) z≠⟨0,0⟩:=by rw[den1]; exact fun e=>absurd (congrArg QC.re e) (by decide +kernel)
theorem aff_im(z:QC):((⟨r,0⟩:QC)*z+⟨t,0⟩).im=r*z.im:=by simp only[qmr,qmi,qar,qai]; grind
theorem K_1(hr:0<r)(sm:Sh4 ((⟨r,0⟩:QC),(⟨t,0⟩:QC),(⟨0,0⟩:QC),(⟨1,0⟩:QC))):hKa (Qad ⟨r,0⟩) (Qad ⟨t,0⟩) (Qad ⟨0,0⟩) (Qad ⟨1,0⟩):=by
 have z0:∀ z:QC,z.im=0→((snd false (⟨r,0⟩:QC) (⟨t,0⟩:QC) (⟨0,0⟩:QC) (⟨1,0⟩:QC) z).im).num.sign=0:=fun z h=>by
  rw[snd1,aff_im,h,Rat.mul_zero]; rfl
 have i0:¬((snd false (⟨r,0⟩:QC) (⟨t,0⟩:QC) (⟨0,0⟩:QC) (⟨1,0⟩:QC) ⟨0,1⟩).im).num.sign≤0:=by
  rw[snd1,aff_im]
  exact npsg (by show 0<r*1; grind)
 exact kpM1 (⟨r,0⟩:QC) (⟨t,0⟩:QC) (⟨0,0⟩:QC) (⟨1,0⟩:QC) sm.1 sm.2.1 sm.2.2.1 sm.2.2.2 (den1_ne _) i0 (den1_ne _) (z0 _ rfl) (den1_ne _) (z0 _ rfl) (den1_ne _) (z0 _ rfl) (aff_ok hr sm)
theorem N1_1(hr:0<r)(sm:Sh4 ((⟨r,0⟩:QC),(⟨t,0⟩:QC),(⟨0,0⟩:QC),(⟨1,0⟩:QC)))(sz:Qab z)(sw:Qab w)(hz:0<z.im)(hw:0<w.im)(sa:Qab ((⟨r,0⟩:QC)*z+⟨t,0⟩))(sb:Qab ((⟨r,0⟩:QC)*w+⟨t,0⟩))(sf:Qal (far1 z w)) :
  hN1a (Qad ⟨r,0⟩) (Qad ⟨t,0⟩) (Qad ⟨0,0⟩) (Qad ⟨1,0⟩) z w (far1 z w):=by
 have hm:=aff_ok hr sm
 obtain⟨e,ha⟩:=far1_map (t:=t) hr hz hw
 have hb:=(far1_map (t:=t) hr hw hz).2
 have F:=fr1 sa sb ha hb (by rw[e]; exact sf)
 rw[e] at F
 have A1:hkAz (Qad ⟨r,0⟩) (Qad ⟨t,0⟩) (Qad ⟨0,0⟩) (Qad ⟨1,0⟩) z ((⟨r,0⟩:QC)*z+⟨t,0⟩):=at4 (m:=((⟨r,0⟩:QC),(⟨t,0⟩:QC),(⟨0,0⟩:QC),(⟨1,0⟩:QC))) hm sz (den1_ne z) (snd1 (⟨r,0⟩:QC) (⟨t,0⟩:QC) z) sa
 have A2:hkAw (Qad ⟨r,0⟩) (Qad ⟨t,0⟩) (Qad ⟨0,0⟩) (Qad ⟨1,0⟩) w ((⟨r,0⟩:QC)*w+⟨t,0⟩):=at4 (m:=((⟨r,0⟩:QC),(⟨t,0⟩:QC),(⟨0,0⟩:QC),(⟨1,0⟩:QC))) hm sw (den1_ne w) (snd1 (⟨r,0⟩:QC) (⟨t,0⟩:QC) w) sb
 exact keptL (Qad ⟨r,0⟩) (Qad ⟨t,0⟩) (Qad ⟨0,0⟩) (Qad ⟨1,0⟩) 1 1 z w (far1 z w) sz sw _ _ sa sb A1 A2 (has_1 z sz (npsg hz)) F
end
section
variable{u v z w:QC}(hu:0<1 - nm u)(hv:0<1 - nm v)
include hu hv
theorem unit_img(h:nm z=1):rD (mvA u v) (mvB u v) z≠⟨0,0⟩∧1 - nm (rN (mvA u v) (mvB u v) z / rD (mvA u v) (mvB u v) z)=0:=by
 have k:=mvk_pos hu hv
 have e:=rD_hi (mvA u v) (mvB u v) z
 rw[h] at e
 have hd:rD (mvA u v) (mvB u v) z≠⟨0,0⟩:=fun q=>by
  have e1:nm (cj (mvA u v))=nm (cj (mvB u v)*z):=by
   have q':cj (mvB u v)*z+cj (mvA u v)=⟨0,0⟩:=q
   have q1:=congrArg QC.re q'
   have q2:=congrArg QC.im q'
   simp only[qar,qai] at q1 q2
   unfold nm
   have a1:(cj (mvA u v)).re=-(cj (mvB u v)*z).re:=by grind
   have a2:(cj (mvA u v)).im=-(cj (mvB u v)*z).im:=by grind
   rw[a1,a2]; grind
  rw[nm_mul,nm_cj,nm_cj,h] at e1
  grind
 refine⟨hd,?_⟩
 rw[hi_div hd,show nm (rD (mvA u v) (mvB u v) z) - nm (rN (mvA u v) (mvB u v) z)=0 from by grind]
 grind
theorem K_2(sm:Sh4 (mv2 u v)):hKb (Qad (mv2 u v).1) (Qad (mv2 u v).2.1) (Qad (mv2 u v).2.2.1) (Qad (mv2 u v).2.2.2):=by
 have one:∀ z:QC,nm z=1→den false (mv2 u v).2.2.1 (mv2 u v).2.2.2 z≠⟨0,0⟩∧(((1:Rat) - nm (snd false (mv2 u v).1 (mv2 u v).2.1 (mv2 u v).2.2.1 (mv2 u v).2.2.2 z)).num.sign)=0:=fun z h=>by
  obtain⟨h1,h2⟩:=unit_img hu hv h
  obtain⟨a1,a2⟩:=mv2_at hu hv h1
  refine⟨a1,?_⟩
  rw[a2,h2]; rfl
 have h0:(0:Rat)<1 - nm (⟨0,0⟩:QC):=by unfold nm; decide +kernel
 obtain⟨_,c1,c2⟩:=far2_map (mvk_pos hu hv) h0 h0
 obtain⟨a1,a2⟩:=mv2_at hu hv c1
 have i0:¬((((1:Rat) - nm (snd false (mv2 u v).1 (mv2 u v).2.1 (mv2 u v).2.2.1 (mv2 u v).2.2.2 ⟨0,0⟩)).num.sign)≤0):=by rw[a2]; exact npsg c2
 have k1:=one ⟨1,0⟩ (by unfold nm; decide +kernel)
 have k2:=one ⟨-1,0⟩ (by unfold nm; decide +kernel)
 have k3:=one ⟨0,1⟩ (by unfold nm; decide +kernel)
 exact kpM2 (mv2 u v).1 (mv2 u v).2.1 (mv2 u v).2.2.1 (mv2 u v).2.2.2 sm.1 sm.2.1 sm.2.2.1 sm.2.2.2 a1 i0 k1.1 k1.2 k2.1 k2.2 k3.1 k3.2 (mv2_ok hu hv sm)
theorem N1_2(sm:Sh4 (mv2 u v))(sz:Qab z)(sw:Qab w)(hz:0<1 - nm z)(hw:0<1 - nm w)(sa:Qab (rN (mvA u v) (mvB u v) z / rD (mvA u v) (mvB u v) z))(sb:Qab (rN (mvA u v) (mvB u v) w / rD (mvA u v) (mvB u v) w))(sf:Qal (far2 z w)) :
  hN1b (Qad (mv2 u v).1) (Qad (mv2 u v).2.1) (Qad (mv2 u v).2.2.1) (Qad (mv2 u v).2.2.2) z w (far2 z w):=by
 have hm:=mv2_ok hu hv sm
 obtain⟨e,da,ha⟩:=far2_map (mvk_pos hu hv) hz hw
 obtain⟨_,db,hb⟩:=far2_map (mvk_pos hu hv) hw hz
 have F:=fr2 sa sb ha hb (by rw[e]; exact sf)
 rw[e] at F
 obtain⟨d1,s1⟩:=mv2_at hu hv da
 obtain⟨d2,s2⟩:=mv2_at hu hv db
 exact keptL (Qad (mv2 u v).1) (Qad (mv2 u v).2.1) (Qad (mv2 u v).2.2.1) (Qad (mv2 u v).2.2.2) 2 2 z w (far2 z w) sz sw _ _ sa sb (at4 hm sz d1 s1 sa) (at4 hm sw d2 s2 sb) (has_2 z sz (npsg hz)) F
end
def m12:Q4:=((⟨1,0⟩:QC),(⟨0,-1⟩:QC),(⟨1,0⟩:QC),(⟨0,1⟩:QC))
def m21:Q4:=((⟨0,-1⟩:QC),(⟨0,-1⟩:QC),(⟨1,0⟩:QC),(⟨-1,0⟩:QC))
theorem m12_ok:MapOk m12:=⟨⟨Qbc (by decide +kernel),Qbc (by decide +kernel),Qbc (by decide +kernel),Qbc (by decide +kernel)⟩,.inl rfl,fun e=>absurd (congrArg QC.im e) (by decide +kernel)⟩
theorem m21_ok:MapOk m21:=⟨⟨Qbc (by decide +kernel),Qbc (by decide +kernel),Qbc (by decide +kernel),Qbc (by decide +kernel)⟩,.inl rfl,fun e=>absurd (congrArg QC.im e) (by decide +kernel)⟩
theorem czk(x y:Int)(hx:x.natAbs<2)(hy:y.natAbs<2):CZ (⟨(x:Rat),(y:Rat)⟩:QC) 2 2:=cz1 x y hx hy
theorem N2_1{z w:QC}(bz:Bt z)(bw:Bt w)(sz:Qab z)(sw:Qab w)(hz:0<z.im)(hw:0<w.im)(sf:Qal (far1 z w)):hN2a (Qad m12.1) (Qad m12.2.1) (Qad m12.2.2.1) (Qad m12.2.2.2) z w (far1 z w):=by
 obtain⟨e,da,ha⟩:=cU_keeps hz hw
 obtain⟨_,db,hb⟩:=cU_keeps hw hz
 have s:∀{z:QC},Bt z→z+(⟨0,1⟩:QC)≠⟨0,0⟩→Qab (cU z):=fun{z} b h =>
  (((b.cz.sub (czk 0 1 (by decide) (by decide)) (r:=90) (by omega) (by omega)).div (b.cz.add (czk 0 1 (by decide) (by decide)) (r:=90) (by omega) (by omega)) h).short (by omega) (by omega):Qab (cU z))
 have dn:∀ z:QC,den false m12.2.2.1 m12.2.2.2 z=z+(⟨0,1⟩:QC):=fun z=>by
  show(⟨1,0⟩:QC)*z+⟨0,1⟩=_
  apply Qbv<;>simp only[qmr,qmi,qar,qai]<;>grind
 have sn:∀ z:QC,snd false m12.1 m12.2.1 m12.2.2.1 m12.2.2.2 z=cU z:=fun z=>by
  show((⟨1,0⟩:QC)*z+⟨0,-1⟩) / den false m12.2.2.1 m12.2.2.2 z=_
  rw[dn]
  unfold cU
  congr 1
  apply Qbv<;>simp only[qmr,qmi,qar,qai,qsr,qsi]<;>grind
 have sa:=s bz da
 have sb:=s bw db
 have F:=fr2 sa sb ha hb (by rw[e]; exact sf)
 rw[e] at F
 exact keptL (Qad m12.1) (Qad m12.2.1) (Qad m12.2.2.1) (Qad m12.2.2.2) 1 2 z w (far1 z w) sz sw _ _ sa sb (at4 m12_ok sz (by rw[dn]; exact da) (sn z) sa) (at4 m12_ok sw (by rw[dn]; exact db) (sn w) sb) (has_1 z sz (npsg hz)) F
theorem N2_2{z w:QC}(bz:Bt z)(bw:Bt w)(sz:Qab z)(sw:Qab w)(hz:0<1 - nm z)(hw:0<1 - nm w)(sf:Qal (far2 z w)):hN2b (Qad m21.1) (Qad m21.2.1) (Qad m21.2.2.1) (Qad m21.2.2.2) z w (far2 z w):=by
 obtain⟨e,da,ha⟩:=cR_keeps hz hw
 obtain⟨_,db,hb⟩:=cR_keeps hw hz
 have s:∀{z:QC},Bt z→(⟨1,0⟩:QC)*z+⟨-1,0⟩≠⟨0,0⟩→Qab (cR z):=fun{z} b h =>
  (((((czk 0 (-1) (by decide) (by decide)).mul b.cz).add (czk 0 (-1) (by decide) (by decide)) (r:=100) (by omega) (by omega)).div (((czk 1 0 (by decide) (by decide)).mul b.cz).add (czk (-1) 0 (by decide) (by decide)) (r:=100) (by omega) (by omega)) h).short (by omega) (by omega):Qab (cR z))
 have sa:=s bz da
 have sb:=s bw db
 have F:=fr1 sa sb ha hb (by rw[e]; exact sf)
 rw[e] at F
 exact keptL (Qad m21.1) (Qad m21.2.1) (Qad m21.2.2.1) (Qad m21.2.2.2) 2 1 z w (far2 z w) sz sw _ _ sa sb (at4 m21_ok sz da rfl sa) (at4 m21_ok sw db rfl sb) (has_2 z sz (npsg hz)) F
theorem mpos_lin1{u v:QC}(hu:0<u.im)(hv:0<v.im)(hne:¬u=v):0<Qes u v*Qes u v - Qew u v*Qfs u v:=by
 have h:=linP1 hu hv hne
 rw[prod_eq,(lin1_eq u v).2.2.1] at h
 grind
theorem kept_in1(z w u v:QC)(bz:Bt z)(bw:Bt w)(bu:Bt u)(bv:Bt v)(sz:Qab z)(sw:Qab w)(su:Qab u)(sv:Qab v)(hz:0<z.im)(hw:0<w.im)(hu:0<u.im)(hv:0<v.im)(Wt:hWt 1 (Qad z) (Qad w) (Qad u) (Qad v)):SCt 6 [gIi 1,.row ((Qad z).cells++(Qad w).cells++(Qad u).cells++(Qad v).cells)] (.r gTt):=by
 have sf:=far1_sh bz bw hz hw
 have F1:hF1a 1 z w (far1 z w):=fr1 sz sw hz hw sf
 have F2:hF2a 1 w z (far1 z w):=by
  have:=fr1 sw sz hw hz (by rw[far1_cm]; exact sf)
  rw[far1_cm w z] at this
  exact this
 have N2:hN2a (Qad m12.1) (Qad m12.2.1) (Qad m12.2.2.1) (Qad m12.2.2.2) z w (far1 z w):=N2_1 bz bw sz sw hz hw sf
 have C:hCa (Qad m12.1) (Qad m12.2.1) (Qad m12.2.2.1) (Qad m12.2.2.2):=kChart
 have sm:=mv1_sh hu bu.1 bu.2 bv.1 bv.2
 have M:hMa u v (Qad (mv1 u v).1) (Qad (mv1 u v).2.1) (Qad (mv1 u v).2.2.1) (Qad (mv1 u v).2.2.2):=(pMov1' u v su sv hu hv).t sm
 have hr:0<v.im / u.im:=by rw[Rat.div_def]; exact Qjk hv (Rat.inv_pos.2 hu)
 have sa:=mv1_img hu bu.1 bu.2 bv.1 bv.2 bz.cz
 have sb:=mv1_img hu bu.1 bu.2 bv.1 bv.2 bw.cz
 have A:hAa (Qad (mv1 u v).1) (Qad (mv1 u v).2.1) (Qad (mv1 u v).2.2.1) (Qad (mv1 u v).2.2.2) u v:=by
  refine at4 (mv1_ok hu hv sm) su ?_ ?_ sv
  ·rw[mv1_id]; exact den1_ne u
  ·rw[mv1_id]
   show snd false _ _ (⟨0,0⟩:QC) (⟨1,0⟩:QC) u=v
   rw[snd1]
   have h:=pne hu
   apply Qbv<;>simp only[qmr,qmi,qar,qai]<;>grind
 rw[mv1_id] at sm M A
 have K:=K_1 hr sm
 have N1:=N1_1 hr sm sz sw hz hw sa sb sf
 have G:¬u=v→∃(ca:RawF) (cb:Qdc) (cc:RawF) (a b:QC),Qab a∧Qab b∧hLa u v ca cb cc∧hO1a ca cb cc z a∧hO2a ca cb cc w b∧hF3a 1 a b (far1 z w):=fun hne=>by
  have S:=lin1_sh bu.1 bu.2 bv.1 bv.2 hu hv hne
  have L:=(pLin1' u v su sv (npsg hu) (npsg hv) hne).t S
  have k:=mpos_lin1 hu hv hne
  obtain⟨e,da,ha⟩:=over1_keeps k hz hw
  obtain⟨_,db,hb⟩:=over1_keeps k hw hz
  have O1:=ov1 bu.1 bu.2 bv.1 bv.2 bz.cz sz hu hv hne (npsg hz)
  have O2:=ov1 bu.1 bu.2 bv.1 bv.2 bw.cz sw hu hv hne (npsg hw)
  have sa:Qab (rfN (Qew u v) (Qes u v) 0 (Qfs u v) z / rfD (Qew u v) (Qes u v) 0 (Qfs u v) z):=rf_b (lin1_b bu.1 bu.2 bv.1 bv.2).1 (lin1_b bu.1 bu.2 bv.1 bv.2).2.1 (bzero 410 (by omega)) (lin1_b bu.1 bu.2 bv.1 bv.2).2.2 bz.cz da
  have sb:Qab (rfN (Qew u v) (Qes u v) 0 (Qfs u v) w / rfD (Qew u v) (Qes u v) 0 (Qfs u v) w):=rf_b (lin1_b bu.1 bu.2 bv.1 bv.2).1 (lin1_b bu.1 bu.2 bv.1 bv.2).2.1 (bzero 410 (by omega)) (lin1_b bu.1 bu.2 bv.1 bv.2).2.2 bw.cz db
  have F:=fr1 sa sb ha hb (by rw[e]; exact sf)
  rw[e] at F
  exact⟨(rawF (Qew u v / (byF (Qew u v) (Qes u v) (Qgo u v)))),(Qad ⟨Qes u v / (byF (Qew u v) (Qes u v) (Qgo u v)),Qgo u v / (byF (Qew u v) (Qes u v) (Qgo u v))⟩),(rawF (Qfs u v / (byF (Qew u v) (Qes u v) (Qgo u v)))),_,_,sa,sb,L,O1,O2,F⟩
 by_cases e1:z=w
 ·have hd:=(far1_one hz hw).2 e1
  by_cases e2:u=v
  ·exact kp_1ee z w u v sz sw su sv e1 e2 _ _ _ _ _ _ _ _ _ hd Wt F1 F2 M K C N1 N2 A
  ·obtain⟨ca,cb,cc,a,b,sa,sb,L,O1,O2,F3⟩:=G e2
   exact kp_1en z w u v sz sw su sv e1 e2 _ _ _ _ _ _ _ _ _ ca cb cc a b sa sb hd Wt F1 F2 M K C N1 N2 A L O1 O2 F3
 ·have hd:¬far1 z w=1:=fun h=>e1 ((far1_one hz hw).1 h)
  by_cases e2:u=v
  ·exact kp_1ne z w u v sz sw su sv e1 e2 _ _ _ _ _ _ _ _ _ hd Wt F1 F2 M K C N1 N2 A
  ·obtain⟨ca,cb,cc,a,b,sa,sb,L,O1,O2,F3⟩:=G e2
   exact kp_1nn z w u v sz sw su sv e1 e2 _ _ _ _ _ _ _ _ _ ca cb cc a b sa sb hd Wt F1 F2 M K C N1 N2 A L O1 O2 F3
theorem mpos_lin2{u v:QC}(hu:0<1 - nm u)(hv:0<1 - nm v)(hne:¬u=v):0<Qet u v*Qet u v+Qeu u v*Qeu u v - Qdy u v*Qdy u v:=by
 have h:=linP2 hu hv hne
 rw[prod_eq,(lin2_eq u v).2.2.2] at h
 grind
theorem kept_in2(z w u v:QC)(bz:Bt z)(bw:Bt w)(bu:Bt u)(bv:Bt v)(sz:Qab z)(sw:Qab w)(su:Qab u)(sv:Qab v)(hz:0<1 - nm z)(hw:0<1 - nm w)(hu:0<1 - nm u)(hv:0<1 - nm v)(Wt:hWt 2 (Qad z) (Qad w) (Qad u) (Qad v)):SCt 6 [gIi 2,.row ((Qad z).cells++(Qad w).cells++(Qad u).cells++(Qad v).cells)] (.r gTt):=by
 have sf:=far2_sh bz bw hz hw
 have F1:hF1b 2 z w (far2 z w):=fr2 sz sw hz hw sf
 have F2:hF2b 2 w z (far2 z w):=by
  have:=fr2 sw sz hw hz (by rw[far2_cm]; exact sf)
  rw[far2_cm w z] at this
  exact this
 have N2:hN2b (Qad m21.1) (Qad m21.2.1) (Qad m21.2.2.1) (Qad m21.2.2.2) z w (far2 z w):=N2_2 bz bw sz sw hz hw sf
 have C:hCb (Qad m21.1) (Qad m21.2.1) (Qad m21.2.2.1) (Qad m21.2.2.2):=pCh21
 have sm:=mv2_sh bu.cz bv.cz hu hv
 have M:hMb u v (Qad (mv2 u v).1) (Qad (mv2 u v).2.1) (Qad (mv2 u v).2.2.1) (Qad (mv2 u v).2.2.2):=(pMov2' u v su sv hu hv).t sm
 have K:=K_2 hu hv sm
 have N1:=N1_2 hu hv sm sz sw hz hw (mv2_img bu.cz bv.cz bz.cz (far2_map (mvk_pos hu hv) hz hw).2.1) (mv2_img bu.cz bv.cz bw.cz (far2_map (mvk_pos hu hv) hw hz).2.1) sf
 have A:hAb (Qad (mv2 u v).1) (Qad (mv2 u v).2.1) (Qad (mv2 u v).2.2.1) (Qad (mv2 u v).2.2.2) u v:=by
  have du:=(far2_map (mvk_pos hu hv) hu hv).2.1
  obtain⟨d1,s1⟩:=mv2_at hu hv du
  exact at4 (mv2_ok hu hv sm) su d1 (s1.trans (qdiv_eq du (mv_to u v))) sv
 have G:¬u=v→∃(ca:RawF) (cb:Qdc) (cc:RawF) (a b:QC),Qab a∧Qab b∧hLb u v ca cb cc∧hO1b ca cb cc z a∧hO2b ca cb cc w b∧hF3b 2 a b (far2 z w):=fun hne=>by
  have S:=lin2_sh bu.1 bu.2 bv.1 bv.2 hu hv hne
  have L:=(pLin2' u v su sv (npsg hu) (npsg hv) hne).t S
  have k:=mpos_lin2 hu hv hne
  obtain⟨e,da,ha⟩:=over2_keeps k hz hw
  obtain⟨_,db,hb⟩:=over2_keeps k hw hz
  have O1:=ov2 bu.1 bu.2 bv.1 bv.2 bz.cz sz hu hv hne (npsg hz)
  have O2:=ov2 bu.1 bu.2 bv.1 bv.2 bw.cz sw hu hv hne (npsg hw)
  have sa:Qab (rfN (Qdy u v) (Qet u v) (Qeu u v) (Qdy u v) z / rfD (Qdy u v) (Qet u v) (Qeu u v) (Qdy u v) z):=rf_b (lin2_b bu.1 bu.2 bv.1 bv.2).1 (lin2_b bu.1 bu.2 bv.1 bv.2).2.1 (lin2_b bu.1 bu.2 bv.1 bv.2).2.2 (lin2_b bu.1 bu.2 bv.1 bv.2).1 bz.cz da
  have sb:Qab (rfN (Qdy u v) (Qet u v) (Qeu u v) (Qdy u v) w / rfD (Qdy u v) (Qet u v) (Qeu u v) (Qdy u v) w):=rf_b (lin2_b bu.1 bu.2 bv.1 bv.2).1 (lin2_b bu.1 bu.2 bv.1 bv.2).2.1 (lin2_b bu.1 bu.2 bv.1 bv.2).2.2 (lin2_b bu.1 bu.2 bv.1 bv.2).1 bw.cz db
  have F:=fr2 sa sb ha hb (by rw[e]; exact sf)
  rw[e] at F
  exact⟨(rawF (Qdy u v / (byF (Qdy u v) (Qet u v) (Qeu u v)))),(Qad ⟨Qet u v / (byF (Qdy u v) (Qet u v) (Qeu u v)),Qeu u v / (byF (Qdy u v) (Qet u v) (Qeu u v))⟩),(rawF (Qiu u v / (byF (Qdy u v) (Qet u v) (Qeu u v)))),_,_,sa,sb,L,O1,O2,F⟩
 by_cases e1:z=w
 ·have hd:=(far2_one hz hw).2 e1
  by_cases e2:u=v
  ·exact kp_2ee z w u v sz sw su sv e1 e2 _ _ _ _ _ _ _ _ _ hd Wt F1 F2 M K C N1 N2 A
  ·obtain⟨ca,cb,cc,a,b,sa,sb,L,O1,O2,F3⟩:=G e2
   exact kp_2en z w u v sz sw su sv e1 e2 _ _ _ _ _ _ _ _ _ ca cb cc a b sa sb hd Wt F1 F2 M K C N1 N2 A L O1 O2 F3
 ·have hd:¬far2 z w=1:=fun h=>e1 ((far2_one hz hw).1 h)
  by_cases e2:u=v
  ·exact kp_2ne z w u v sz sw su sv e1 e2 _ _ _ _ _ _ _ _ _ hd Wt F1 F2 M K C N1 N2 A
  ·obtain⟨ca,cb,cc,a,b,sa,sb,L,O1,O2,F3⟩:=G e2
   exact kp_2nn z w u v sz sw su sv e1 e2 _ _ _ _ _ _ _ _ _ ca cb cc a b sa sb hd Wt F1 F2 M K C N1 N2 A L O1 O2 F3
theorem sm_sz4{g1 g2 g3 g4:Qdc}(h:¬smKC g1 g2 g3 g4):(g1.s1.size≤5∧g1.s2.size≤5∧g1.s3.size≤5∧g1.s4.size≤5)∧(g2.s1.size≤5∧g2.s2.size≤5∧g2.s3.size≤5∧g2.s4.size≤5)∧(g3.s1.size≤5∧g3.s2.size≤5∧g3.s3.size≤5∧g3.s4.size≤5)∧(g4.s1.size≤5∧g4.s2.size≤5∧g4.s3.size≤5∧g4.s4.size≤5):=by
 have k:∀ k,k<16→¬smKP g1 g2 g3 g4 k:=fun k hk e=>h ⟨k,hk,e⟩
 have a0:=k 0 (by decide)
 have a1:=k 1 (by decide)
 have a2:=k 2 (by decide)
 have a3:=k 3 (by decide)
 have a4:=k 4 (by decide)
 have a5:=k 5 (by decide)
 have a6:=k 6 (by decide)
 have a7:=k 7 (by decide)
 have a8:=k 8 (by decide)
 have a9:=k 9 (by decide)
 have a10:=k 10 (by decide)
 have a11:=k 11 (by decide)
 have a12:=k 12 (by decide)
 have a13:=k 13 (by decide)
 have a14:=k 14 (by decide)
 have a15:=k 15 (by decide)
 simp[smKP,Sz] at a0 a1 a2 a3 a4 a5 a6 a7 a8 a9 a10 a11 a12 a13 a14 a15
 exact⟨⟨by omega,by omega,by omega,by omega⟩,⟨by omega,by omega,by omega,by omega⟩,⟨by omega,by omega,by omega,by omega⟩,by omega,by omega,by omega,by omega⟩
theorem bt_of{z:QC}(h:(Qad z).s1.size≤5∧(Qad z).s2.size≤5∧(Qad z).s3.size≤5∧(Qad z).s4.size≤5):Bt z:=⟨BQ.of_size h.1 h.2.1,BQ.of_size h.2.2.1 h.2.2.2⟩
end Go.Proofs.YtmimficdpfmfgaaGreat
