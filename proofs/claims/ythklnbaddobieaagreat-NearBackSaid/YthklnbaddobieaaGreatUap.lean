/- Laws for the walk. -/
import Derived.Test.YthklnbaddobieaaGreatUao
set_option linter.unusedVariables false
set_option maxHeartbeats 4000000
namespace Go.Proofs.YthklnbaddobieaaGreat
open Go.RowKit Tr
theorem F64_A1(q:Rat)(vx:Value)(w:World)(hx:RatP q vx w NoA)(hl:RL q 2048)(h0:q≠0)(bn bd u:Nat)(hbn:BitsOf q.num.natAbs bn)(hbd:BitsOf q.den bd)(lbn:bn≤65536)(lbd:bd≤65536)(hu:66 - (bn:Int)+bd=(u:Int))
  (N D qq rr Q:Nat) (hN:N=q.num.natAbs*2 ^ u) (hD:D=q.den) (hqq:qq=N / D) (hrr:rr=N % D) (hQ:BitsOf qq Q) (hQ67:Q=66∨Q=67) (l0 low:Nat) (hlow:max ((Q:Int) - 53) ((u:Int) - 1074)=(l0:Int)) (hl0:Q+1<l0) (hlq:(Q:Int)+1=(low:Int))
  (k rest M:Nat) (hk:k=qq / 2 ^ low) (hrest:rest=qq % 2 ^ low) (hM:M=if 2 ^ (low - 1)<rest∨(rest=2 ^ (low - 1)∧(rr≠0∨k % 2=1)) then k+1 else k) (hM2:M≤9007199254740992)
  (y:Nat) (hfin:∀ w,Calls Tryz.prog 95 #[.float .f64 (floatOfInt .f64 (M:Int)),.int .i64 ((low:Int) - u)] w fun r w'=>r=.returned (.float .f64 y)∧w=w') (hy:y≤GW+1) :
  Calls Tryz.prog 36 #[vx] w fun e w'=>∃ b,e=.returned (.tuple #[.float .f64 (sgw (decide (q.num<0)) y),.bool b])∧Below w.heap.size w w':=by
 obtain⟨b,rfl⟩:=hx.shape
 obtain⟨_,eb,hxn,hxd⟩:=id hx
 cases eb
 have hblt:b<w.heap.size:=by obtain⟨_,_,_,e,h,_⟩:=hxn; cases e; exact h
 have hcell:=hxn.cells
 obtain⟨p1,n1,c1,_,hneg,hw1,_⟩:=hcell
 obtain⟨ng,hng⟩:∃ ng,ng=decide (q.num<0):=⟨_,rfl⟩
 rw[←hng] at hneg ⊢
 clear hng
 have hs0:¬q.num.sign=0:=by
  intro h
  rw[Int.sign_eq_zero_iff_zero] at h
  exact h0 (Rat.num_eq_zero.1 h)
 have nb:q.num.natAbs<2 ^ bn:=hbn.1
 have db:q.den<2 ^ bd:=hbd.1
 have hln:(words q.num.natAbs).length<1000000:=by have:=hl.1; omega
 have hld:(words q.den).length<1000000:=by have:=hl.2; omega
 have HX:=Lib.hid (And.intro hx (And.intro hxn (And.intro hln hld)))
 have HV:=Lib.hid (And.intro hbn hbd)
 clear hx hxn hxd hl h0 hw1
 go_enter Tryz.func36,Tryz.ntmps36
 go_wp2_with fail
 refine(RSign_any q _ NoA w HX.out.1).mono ?_
 rintro e w' ⟨rfl,rfl⟩
 go_wp2_with fail
 have hb1:Below w.heap.size w (w.alloc (.cells #[.bool false,.slice none 0 0] 131)):=br.alloc (Nat.le_refl _) _
 refine((ownI_new w).abs (HX.out.2.1.below hb1) (by have:=HX.out.2.2.1; omega)).mono ?_
 rintro e w2 ⟨rfl,hn,hm2⟩
 have hb2:Below w.heap.size w w2:=hb1.trans (hm2.below (Nat.le_refl _) hb1.size)
 have hx2:RatP q (.pointer (some ⟨b,0,none⟩)) w2 (fun x=>x=w.heap.size):=(HX.out.1.below hb2).avoid hn.noW (by omega)
 go_wp2_with fail
 refine(den_any q _ _ w2 hx2 hn.noW).mono ?_
 rintro e w3 ⟨vd,rfl,hb3,hd⟩
 have hn3:=hn.below hb3
 have hbw3:Below w.heap.size w w3:=hb2.trans (hb3.mono hb2.size)
 clear hn hm2 hx2 hb2 hb3 hb1
 go_wp2_with fail
 refine(BitLen_any _ _ NoA w3 hn3.intP (by rw[Int.natAbs_natCast]; have:=HX.out.2.2.1; omega)).mono ?_
 rintro e w4 ⟨bn',rfl,hbn',_,hb4⟩
 rw[Int.natAbs_natCast] at hbn'
 obtain rfl:=bits_one hbn'.out HV.out.1
 have hn4:=hn3.below hb4
 have hd4:=hd.below hb4
 have hbw4:Below w.heap.size w w4:=hbw3.trans (hb4.mono hbw3.size)
 clear hn3 hd hb4 hbw3 hbn'
 go_wp2_with fail
 refine(BitLen_any _ _ _ w4 hd4 (by rw[Int.natAbs_natCast]; have:=HX.out.2.2.2; omega)).mono ?_
 rintro e w5 ⟨bd',rfl,hbd',_,hb5⟩
 rw[Int.natAbs_natCast] at hbd'
 obtain rfl:=bits_one hbd'.out HV.out.2
 have hn5:=hn4.below hb5
 have hd5:=hd4.below hb5
 have hbw5:Below w.heap.size w w5:=hbw4.trans (hb5.mono hbw4.size)
 clear hn4 hd4 hb5 hbw4 hbd'
 go_wp2_with fail
 have lenN:(words N).length<1000000:=by
  refine len_bits (K:=bn'+u) ?_ (by omega)
  rw[hN,Nat.pow_add]; exact Nat.mul_lt_mul_of_pos_right HV.out.1.1 (Nat.two_pow_pos _)
 refine(hn5.lsh (by rw[Int.natAbs_natCast]; exact HX.out.2.2.1) (by omega) (by rw[Int.natAbs_natCast,←hN]; exact lenN)).mono ?_
 rintro e w6 ⟨rfl,hn6,hm6⟩
 have hn6:OwnI w.heap.size (N:Int) w6:=hn6.at (by rw[hN]; simp)
 have hd6:=OwnI.ptr hd5 hm6
 rw[←hD] at hd6
 have hbw6:Below w.heap.size w w6:=hbw5.trans (hm6.below (Nat.le_refl _) hbw5.size)
 have hcD:0<D:=by rw[hD]; exact Nat.pos_of_ne_zero q.den_nz
 clear hn5 hd5 hm6 hbw5 hN hD
 go_wp2_with fail
 have ha1:Below w6.heap.size w6 (w6.alloc (.cells #[.bool false,.slice none 0 0] 131)):=br.alloc (Nat.le_refl _) _
 have ha2:Below w6.heap.size w6 ((w6.alloc (.cells #[.bool false,.slice none 0 0] 131)).alloc (.cells #[.bool false,.slice none 0 0] 131)):=ha1.alloc (by simp) _
 have ho1:OwnI w6.heap.size 0 ((w6.alloc (.cells #[.bool false,.slice none 0 0] 131)).alloc (.cells #[.bool false,.slice none 0 0] 131)):=(ownI_new w6).below (br.alloc (Nat.le_refl _) _)
 have ho2:=ownI_new (w6.alloc (.cells #[.bool false,.slice none 0 0] 131))
 rw[show(w6.alloc (.cells #[.bool false,.slice none 0 0] 131)).heap.size=w6.heap.size+1 by simp] at ho2
 refine(ho1.quoOf ho2 (by omega) (hn6.intP.below ha2) (hd6.noA.below ha2) hcD lenN).mono ?_
 rintro e w7 ⟨rfl,hq7,hr7,wx,mx1,mx2⟩
 rw[←hqq] at hq7
 rw[←hrr] at hr7
 have hb7:Below w6.heap.size w6 w7:=(ha2.trans (mx1.below (by omega) ha2.size)).trans (mx2.below (Nat.le_refl _) (Nat.le_trans ha2.size mx1.size))
 have hbw7:Below w.heap.size w w7:=hbw6.trans (hb7.mono hbw6.size)
 obtain⟨qB,hqB⟩:∃ qB,qB=w6.heap.size:=⟨_,rfl⟩
 have hqs:w.heap.size≤qB:=by rw[hqB]; exact hbw6.size
 rw[←hqB] at hq7 hr7 ⊢
 clear ha1 ha2 ho1 ho2 mx1 mx2 hn6 hd6 hb7 hbw6 hqB lenN hqq hrr
 go_wp2_with fail
 have lenq:(words qq).length<1000000:=len_bits (K:=Q) hQ.1 (by omega)
 refine(BitLen_any _ _ NoA w7 hq7.intP (by rw[Int.natAbs_natCast]; omega)).mono ?_
 rintro e w8 ⟨Q',rfl,hQ',_,hb8⟩
 rw[Int.natAbs_natCast] at hQ'
 obtain rfl:=bits_one hQ hQ'.out
 have hq8:=hq7.below hb8
 have hr8:=hr7.below hb8
 have hbw8:Below w.heap.size w w8:=hbw7.trans (hb8.mono hbw7.size)
 clear hq7 hr7 hb8 hbw7 hQ'
 go_wp2_with fail
 refine(BitLen_any _ _ NoA w8 hq8.intP (by rw[Int.natAbs_natCast]; omega)).mono ?_
 rintro e w9 ⟨Q',rfl,hQ',_,hb9⟩
 rw[Int.natAbs_natCast] at hQ'
 obtain rfl:=bits_one hQ hQ'.out
 have hq9:=hq8.below hb9
 have hr9:=hr8.below hb9
 have hbw9:Below w.heap.size w w9:=hbw8.trans (hb9.mono hbw8.size)
 clear hq8 hr8 hb9 hbw8 hQ'
 go_wp2_with fail
 refine(BitLen_any _ _ NoA w9 hq9.intP (by rw[Int.natAbs_natCast]; omega)).mono ?_
 rintro e w9b ⟨Q',rfl,hQ',_,hb9b⟩
 rw[Int.natAbs_natCast] at hQ'
 obtain rfl:=bits_one hQ hQ'.out
 have hq9:=hq9.below hb9b
 have hr9:=hr9.below hb9b
 have hbw9:Below w.heap.size w w9b:=hbw9.trans (hb9b.mono hbw9.size)
 clear hb9b hQ'
 go_wp2_with fail
 have hg1:Below w9b.heap.size w9b (w9b.alloc (.cells #[.bool false,.slice none 0 0] 131)):=br.alloc (Nat.le_refl _) _
 refine((ownI_new w9b).rshOf (hq9.intP.below hg1) lenq (by omega)).mono ?_
 rintro e w10 ⟨rfl,hk10,hm10⟩
 rw[←hk] at hk10
 have hb10:Below w9b.heap.size w9b w10:=hg1.trans (hm10.below (Nat.le_refl _) hg1.size)
 have hq10:=hq9.below hb10
 have hr10:=hr9.below hb10
 have hbw10:Below w.heap.size w w10:=hbw9.trans (hb10.mono hbw9.size)
 obtain⟨mB,hmB⟩:∃ mB,mB=w9b.heap.size:=⟨_,rfl⟩
 have hms:w.heap.size≤mB:=by rw[hmB]; exact hbw9.size
 have hqm:qB<mB∧qB+1<mB:=by rw[hmB]; exact⟨hq9.lt,hr9.lt⟩
 rw[←hmB] at hk10 ⊢
 clear hg1 hm10 hb10 hq9 hr9 hbw9 hmB
 go_wp2_with fail
 have lenk:(words k).length<1000000:=len_bits (K:=Q) (Nat.lt_of_le_of_lt (by rw[hk]; exact Nat.div_le_self _ _) hQ.1) (by omega)
 have lenkl:(words (k*2 ^ low)).length<1000000:=len_bits (K:=Q) (Nat.lt_of_le_of_lt (by rw[hk]; exact Nat.div_mul_le_self _ _) hQ.1) (by omega)
 have ha1:Below w10.heap.size w10 (w10.alloc (.cells #[.bool false,.slice none 0 0] 131)):=br.alloc (Nat.le_refl _) _
 have ha2:Below w10.heap.size w10 ((w10.alloc (.cells #[.bool false,.slice none 0 0] 131)).alloc (.cells #[.bool false,.slice none 0 0] 131)):=ha1.alloc (by simp) _
 have ho1:OwnI w10.heap.size 0 ((w10.alloc (.cells #[.bool false,.slice none 0 0] 131)).alloc (.cells #[.bool false,.slice none 0 0] 131)):=(ownI_new w10).below (br.alloc (Nat.le_refl _) _)
 have ho2:=ownI_new (w10.alloc (.cells #[.bool false,.slice none 0 0] 131))
 rw[show(w10.alloc (.cells #[.bool false,.slice none 0 0] 131)).heap.size=w10.heap.size+1 by simp] at ho2
 refine(ho2.lshOf (hk10.intP.below ha2) (by rw[Int.natAbs_natCast]; exact lenk) (by omega) (by rw[Int.natAbs_natCast]; exact lenkl)).mono ?_
 rintro e w11 ⟨rfl,hl11,hm11⟩
 have hl11:=hl11.at (y:=((k*2 ^ low:Nat):Int)) (by simp)
 have ho11:=ho1.mod ho2 (by omega) hm11
 have hb11:Below w10.heap.size w10 w11:=ha2.trans (hm11.below (by omega) ha2.size)
 clear ha1 ha2 ho1 ho2 hm11
 go_wp2_with fail
 refine(ho11.subOf (hq10.intP.below hb11) hl11.intP (by rw[Int.natAbs_natCast]; exact lenq) (by rw[Int.natAbs_natCast]; exact lenkl)).mono ?_
 rintro e w12 ⟨rfl,ht12,hm12⟩
 have ht12:=ht12.at (y:=(rest:Int)) (by
  have:=Nat.div_add_mod qq (2 ^ low)
  rw[←hk,←hrest,Nat.mul_comm] at this
  omega)
 have hb12:Below w10.heap.size w10 w12:=hb11.trans (hm12.below (Nat.le_refl _) hb11.size)
 have hr12:=hr10.below hb12
 have hk12:=hk10.below hb12
 have hbw12:Below w.heap.size w w12:=hbw10.trans (hb12.mono hbw10.size)
 obtain⟨tB,htB⟩:∃ tB,tB=w10.heap.size:=⟨_,rfl⟩
 have hts:w.heap.size≤tB:=by rw[htB]; exact hbw10.size
 have hmt:mB<tB:=by rw[htB]; exact hk10.lt
 have lenr:(words rest).length<1000000:=len_bits (K:=Q) (Nat.lt_of_le_of_lt (by rw[hrest]; exact Nat.mod_le _ _) hQ.1) (by omega)
 rw[←htB] at ht12 ⊢
 clear hk hb11 hb12 hm12 hl11 ho11 hq10 hr10 hk10 hbw10 htB lenkl lenq hrest
 go_wp2_with fail
 have hg1:Below w12.heap.size w12 (w12.alloc (.cells #[.bool false,.slice none 0 0] 131)):=br.alloc (Nat.le_refl _) _
 refine(newInt_own 1 (by decide) (by decide) _).mono ?_
 rintro e w13 ⟨rfl,hi13,hb13⟩
 rw[show(w12.alloc (.cells #[.bool false,.slice none 0 0] 131)).heap.size=w12.heap.size+1 by simp] at hi13 hb13
 have ho13:=(ownI_new w12).below (by simpa using hb13)
 have hb13':Below w12.heap.size w12 w13:=hg1.trans (hb13.mono (by omega))
 go_wp2_with fail
 rw[show(low:Int) - 1=((low - 1:Nat):Int) by omega]
 have half2:(words (2 ^ (low - 1))).length<1000000:=len_bits (K:=low) (Nat.pow_lt_pow_right (by decide) (by omega)) (by omega)
 refine(ho13.lshOf hi13.intP len_one (by omega) (by rw[show(1:Int).natAbs=1 from rfl,Nat.one_mul]; exact half2)).mono ?_
 rintro e w14 ⟨rfl,hh14,hm14⟩
 have hh14:=hh14.at (y:=((2 ^ (low - 1):Nat):Int)) (by simp)
 have hb14:Below w12.heap.size w12 w14:=hb13'.trans (hm14.below (Nat.le_refl _) hb13'.size)
 have hk14:=hk12.below hb14
 have hr14:=hr12.below hb14
 have ht14:=ht12.below hb14
 have hbw14:Below w.heap.size w w14:=hbw12.trans (hb14.mono hbw12.size)
 clear hb13 hb13' ho13 hi13 hb14 hm14 hk12 hr12 ht12 hbw12 hg1
 go_wp2_with fail
 refine(Cmp_any _ _ _ _ NoA w14 ht14.intP hh14.intP (by rw[Int.natAbs_natCast]; omega) (by rw[Int.natAbs_natCast]; omega)).mono ?_
 rintro e w15 ⟨rfl,hb15⟩
 have hk:=hk14.below hb15
 have hr:=hr14.below hb15
 have ht:=ht14.below hb15
 have hbw:Below w.heap.size w w15:=hbw14.trans (hb15.mono hbw14.size)
 clear hk14 hr14 ht14 hbw14 hb15 hh14
 have hcases:=f64_cases hM
 have hy64:y<2 ^ 64:=by unfold GW at hy; omega
 clear hM
 rcases hcases with⟨hc,hM⟩|⟨hc,hz,hM⟩|⟨hc,hz,hrz,hM⟩|⟨hc,hz,hrz,hM⟩|⟨hc,hrz,hM⟩|⟨hc,hrz,hkz,hM⟩|⟨hc,hrz,hkz,hM⟩
 ·rw[hc.1]
  cases ng
  ·go_wp2_with fail
   refine(newInt_own 1 (by decide) (by decide) w15).mono ?_
   rintro e wn ⟨rfl,hi,hbn⟩
   have hk:=hk.below hbn
   have hr:=hr.below hbn
   have ht:=ht.below hbn
   have hbw:=hbw.trans (hbn.mono hbw.size)
   go_wp2_with fail
   refine(hk.addOf hk.intP hi.intP (by rw[Int.natAbs_natCast]; exact lenk) len_one).mono ?_
   rintro e wm ⟨rfl,hk2,hma⟩
   have hr:=hr.mod hk (by omega) hma
   have ht:=ht.mod hk (by omega) hma
   have hbw:=hbw.trans (hma.below (by omega) hbw.size)
   have hk:=hk2.at (y:=(M:Int)) (by omega)
   clear hk2 hma hbn hi
   go_wp2_with fail
   clear hM
   refine(Uint64_any M (by omega) _ NoA wm hk.intP).mono ?_
   rintro e w' ⟨rfl,rfl⟩
   go_wp2_with fail
   refine(hfin _).mono ?_
   rintro e w' ⟨rfl,rfl⟩
   have hng:=(World.cell?_of_block (a:=⟨b,0,none⟩) (hbw.block b hblt)).trans hneg
   go_wp2_with fail
   refine(Sign_any _ _ NoA wm ht.intP).mono ?_
   rintro e w' ⟨rfl,rfl⟩
   go_wp2_with fail
   refine bodyPost_ret (v:=.tuple #[.float .f64 (y),.bool false]) (by kernel_rfl) rfl ⟨_,rfl,hbw⟩
  ·go_wp2_with fail
   refine(newInt_own 1 (by decide) (by decide) w15).mono ?_
   rintro e wn ⟨rfl,hi,hbn⟩
   have hk:=hk.below hbn
   have hr:=hr.below hbn
   have ht:=ht.below hbn
   have hbw:=hbw.trans (hbn.mono hbw.size)
   go_wp2_with fail
   refine(hk.addOf hk.intP hi.intP (by rw[Int.natAbs_natCast]; exact lenk) len_one).mono ?_
   rintro e wm ⟨rfl,hk2,hma⟩
   have hr:=hr.mod hk (by omega) hma
   have ht:=ht.mod hk (by omega) hma
   have hbw:=hbw.trans (hma.below (by omega) hbw.size)
   have hk:=hk2.at (y:=(M:Int)) (by omega)
   clear hk2 hma hbn hi
   go_wp2_with fail
   clear hM
   refine(Uint64_any M (by omega) _ NoA wm hk.intP).mono ?_
   rintro e w' ⟨rfl,rfl⟩
   go_wp2_with fail
   refine(hfin _).mono ?_
   rintro e w' ⟨rfl,rfl⟩
   have hun:=unary_neg
   have hng:=(World.cell?_of_block (a:=⟨b,0,none⟩) (hbw.block b hblt)).trans hneg
   go_wp2_with fail
   refine(Sign_any _ _ NoA wm ht.intP).mono ?_
   rintro e w' ⟨rfl,rfl⟩
   go_wp2_with fail
   refine bodyPost_ret (v:=.tuple #[.float .f64 (flip y),.bool false]) (by kernel_rfl) rfl ⟨_,by rw[show flip y=sgw true y from sgw_xor (s:=false) hy],hbw⟩
 ·rw[hc.1]
  cases ng
  ·go_wp2_with fail
   have hk:=hk.at (y:=(M:Int)) (by omega)
   clear hM
   refine(Uint64_any M (by omega) _ NoA w15 hk.intP).mono ?_
   rintro e w' ⟨rfl,rfl⟩
   go_wp2_with fail
   refine(hfin _).mono ?_
   rintro e w' ⟨rfl,rfl⟩
   have hng:=(World.cell?_of_block (a:=⟨b,0,none⟩) (hbw.block b hblt)).trans hneg
   go_wp2_with fail
   refine(Sign_any _ _ NoA w15 ht.intP).mono ?_
   rintro e w' ⟨rfl,rfl⟩
   go_wp2_with fail
   refine bodyPost_ret (v:=.tuple #[.float .f64 (y),.bool false]) (by kernel_rfl) rfl ⟨_,rfl,hbw⟩
  ·go_wp2_with fail
   have hk:=hk.at (y:=(M:Int)) (by omega)
   clear hM
   refine(Uint64_any M (by omega) _ NoA w15 hk.intP).mono ?_
   rintro e w' ⟨rfl,rfl⟩
   go_wp2_with fail
   refine(hfin _).mono ?_
   rintro e w' ⟨rfl,rfl⟩
   have hun:=unary_neg
   have hng:=(World.cell?_of_block (a:=⟨b,0,none⟩) (hbw.block b hblt)).trans hneg
   go_wp2_with fail
   refine(Sign_any _ _ NoA w15 ht.intP).mono ?_
   rintro e w' ⟨rfl,rfl⟩
   go_wp2_with fail
   refine bodyPost_ret (v:=.tuple #[.float .f64 (flip y),.bool false]) (by kernel_rfl) rfl ⟨_,by rw[show flip y=sgw true y from sgw_xor (s:=false) hy],hbw⟩
 ·rw[hc.1]
  cases ng
  ·go_wp2_with fail
   have hk:=hk.at (y:=(M:Int)) (by omega)
   clear hM
   refine(Uint64_any M (by omega) _ NoA w15 hk.intP).mono ?_
   rintro e w' ⟨rfl,rfl⟩
   go_wp2_with fail
   refine(hfin _).mono ?_
   rintro e w' ⟨rfl,rfl⟩
   have hng:=(World.cell?_of_block (a:=⟨b,0,none⟩) (hbw.block b hblt)).trans hneg
   go_wp2_with fail
   refine(Sign_any _ _ NoA w15 ht.intP).mono ?_
   rintro e w' ⟨rfl,rfl⟩
   go_wp2_with fail
   refine(Sign_any _ _ NoA w15 hr.intP).mono ?_
   rintro e w' ⟨rfl,rfl⟩
   go_wp2_with fail
   refine bodyPost_ret (v:=.tuple #[.float .f64 (y),.bool false]) (by kernel_rfl) rfl ⟨_,rfl,hbw⟩
  ·go_wp2_with fail
   have hk:=hk.at (y:=(M:Int)) (by omega)
   clear hM
   refine(Uint64_any M (by omega) _ NoA w15 hk.intP).mono ?_
   rintro e w' ⟨rfl,rfl⟩
   go_wp2_with fail
   refine(hfin _).mono ?_
   rintro e w' ⟨rfl,rfl⟩
   have hun:=unary_neg
   have hng:=(World.cell?_of_block (a:=⟨b,0,none⟩) (hbw.block b hblt)).trans hneg
   go_wp2_with fail
   refine(Sign_any _ _ NoA w15 ht.intP).mono ?_
   rintro e w' ⟨rfl,rfl⟩
   go_wp2_with fail
   refine(Sign_any _ _ NoA w15 hr.intP).mono ?_
   rintro e w' ⟨rfl,rfl⟩
   go_wp2_with fail
   refine bodyPost_ret (v:=.tuple #[.float .f64 (flip y),.bool false]) (by kernel_rfl) rfl ⟨_,by rw[show flip y=sgw true y from sgw_xor (s:=false) hy],hbw⟩
 ·rw[hc.1]
  cases ng
  ·go_wp2_with fail
   have hk:=hk.at (y:=(M:Int)) (by omega)
   clear hM
   refine(Uint64_any M (by omega) _ NoA w15 hk.intP).mono ?_
   rintro e w' ⟨rfl,rfl⟩
   go_wp2_with fail
   refine(hfin _).mono ?_
   rintro e w' ⟨rfl,rfl⟩
   have hng:=(World.cell?_of_block (a:=⟨b,0,none⟩) (hbw.block b hblt)).trans hneg
   go_wp2_with fail
   refine(Sign_any _ _ NoA w15 ht.intP).mono ?_
   rintro e w' ⟨rfl,rfl⟩
   go_wp2_with fail
   refine(Sign_any _ _ NoA w15 hr.intP).mono ?_
   rintro e w' ⟨rfl,rfl⟩
   go_wp2_with fail
   obtain⟨bi,hbi⟩:=isinf_some (x:=y) hy64
   refine(hbi _).mono ?_
   rintro e w' ⟨rfl,rfl⟩
   cases bi
   ·go_wp2_with fail
    refine bodyPost_ret (v:=.tuple #[.float .f64 (y),.bool true]) (by kernel_rfl) rfl ⟨_,rfl,hbw⟩
   ·go_wp2_with fail
    refine bodyPost_ret (v:=.tuple #[.float .f64 (y),.bool false]) (by kernel_rfl) rfl ⟨_,rfl,hbw⟩
  ·go_wp2_with fail
   have hk:=hk.at (y:=(M:Int)) (by omega)
   clear hM
   refine(Uint64_any M (by omega) _ NoA w15 hk.intP).mono ?_
   rintro e w' ⟨rfl,rfl⟩
   go_wp2_with fail
   refine(hfin _).mono ?_
   rintro e w' ⟨rfl,rfl⟩
   have hun:=unary_neg
   have hng:=(World.cell?_of_block (a:=⟨b,0,none⟩) (hbw.block b hblt)).trans hneg
   go_wp2_with fail
   refine(Sign_any _ _ NoA w15 ht.intP).mono ?_
   rintro e w' ⟨rfl,rfl⟩
   go_wp2_with fail
   refine(Sign_any _ _ NoA w15 hr.intP).mono ?_
   rintro e w' ⟨rfl,rfl⟩
   go_wp2_with fail
   obtain⟨bi,hbi⟩:=isinf_some (x:=flip y) (flip_lt hy)
   refine(hbi _).mono ?_
   rintro e w' ⟨rfl,rfl⟩
   cases bi
   ·go_wp2_with fail
    refine bodyPost_ret (v:=.tuple #[.float .f64 (flip y),.bool true]) (by kernel_rfl) rfl ⟨_,by rw[show flip y=sgw true y from sgw_xor (s:=false) hy],hbw⟩
   ·go_wp2_with fail
    refine bodyPost_ret (v:=.tuple #[.float .f64 (flip y),.bool false]) (by kernel_rfl) rfl ⟨_,by rw[show flip y=sgw true y from sgw_xor (s:=false) hy],hbw⟩
 ·rw[hc.1]
  have hz:¬rest=0:=by rw[hc.2]; exact Nat.ne_of_gt (Nat.two_pow_pos _)
  clear hc
  cases ng
  ·go_wp2_with fail
   refine(Sign_any _ _ NoA w15 hr.intP).mono ?_
   rintro e w' ⟨rfl,rfl⟩
   go_wp2_with fail
   refine(newInt_own 1 (by decide) (by decide) w15).mono ?_
   rintro e wn ⟨rfl,hi,hbn⟩
   have hk:=hk.below hbn
   have hr:=hr.below hbn
   have ht:=ht.below hbn
   have hbw:=hbw.trans (hbn.mono hbw.size)
   go_wp2_with fail
   refine(hk.addOf hk.intP hi.intP (by rw[Int.natAbs_natCast]; exact lenk) len_one).mono ?_
   rintro e wm ⟨rfl,hk2,hma⟩
   have hr:=hr.mod hk (by omega) hma
   have ht:=ht.mod hk (by omega) hma
   have hbw:=hbw.trans (hma.below (by omega) hbw.size)
   have hk:=hk2.at (y:=(M:Int)) (by omega)
   clear hk2 hma hbn hi
   go_wp2_with fail
   clear hM
   refine(Uint64_any M (by omega) _ NoA wm hk.intP).mono ?_
   rintro e w' ⟨rfl,rfl⟩
   go_wp2_with fail
   refine(hfin _).mono ?_
   rintro e w' ⟨rfl,rfl⟩
   have hng:=(World.cell?_of_block (a:=⟨b,0,none⟩) (hbw.block b hblt)).trans hneg
   go_wp2_with fail
   refine(Sign_any _ _ NoA wm ht.intP).mono ?_
   rintro e w' ⟨rfl,rfl⟩
   go_wp2_with fail
   refine bodyPost_ret (v:=.tuple #[.float .f64 (y),.bool false]) (by kernel_rfl) rfl ⟨_,rfl,hbw⟩
  ·go_wp2_with fail
   refine(Sign_any _ _ NoA w15 hr.intP).mono ?_
   rintro e w' ⟨rfl,rfl⟩
   go_wp2_with fail
   refine(newInt_own 1 (by decide) (by decide) w15).mono ?_
   rintro e wn ⟨rfl,hi,hbn⟩
   have hk:=hk.below hbn
   have hr:=hr.below hbn
   have ht:=ht.below hbn
   have hbw:=hbw.trans (hbn.mono hbw.size)
   go_wp2_with fail
   refine(hk.addOf hk.intP hi.intP (by rw[Int.natAbs_natCast]; exact lenk) len_one).mono ?_
   rintro e wm ⟨rfl,hk2,hma⟩
   have hr:=hr.mod hk (by omega) hma
   have ht:=ht.mod hk (by omega) hma
   have hbw:=hbw.trans (hma.below (by omega) hbw.size)
   have hk:=hk2.at (y:=(M:Int)) (by omega)
   clear hk2 hma hbn hi
   go_wp2_with fail
   clear hM
   refine(Uint64_any M (by omega) _ NoA wm hk.intP).mono ?_
   rintro e w' ⟨rfl,rfl⟩
   go_wp2_with fail
   refine(hfin _).mono ?_
   rintro e w' ⟨rfl,rfl⟩
   have hun:=unary_neg
   have hng:=(World.cell?_of_block (a:=⟨b,0,none⟩) (hbw.block b hblt)).trans hneg
   go_wp2_with fail
   refine(Sign_any _ _ NoA wm ht.intP).mono ?_
   rintro e w' ⟨rfl,rfl⟩
   go_wp2_with fail
   refine bodyPost_ret (v:=.tuple #[.float .f64 (flip y),.bool false]) (by kernel_rfl) rfl ⟨_,by rw[show flip y=sgw true y from sgw_xor (s:=false) hy],hbw⟩
 ·rw[hc.1]
  have hz:¬rest=0:=by rw[hc.2]; exact Nat.ne_of_gt (Nat.two_pow_pos _)
  clear hc
  cases ng
  ·go_wp2_with fail
   refine(Sign_any _ _ NoA w15 hr.intP).mono ?_
   rintro e w' ⟨rfl,rfl⟩
   go_wp2_with fail
   refine(Bit0_any k _ NoA w15 hk.intP (by omega)).mono ?_
   rintro e w' ⟨rfl,rfl⟩
   go_wp2_with fail
   refine(newInt_own 1 (by decide) (by decide) w15).mono ?_
   rintro e wn ⟨rfl,hi,hbn⟩
   have hk:=hk.below hbn
   have hr:=hr.below hbn
   have ht:=ht.below hbn
   have hbw:=hbw.trans (hbn.mono hbw.size)
   go_wp2_with fail
   refine(hk.addOf hk.intP hi.intP (by rw[Int.natAbs_natCast]; exact lenk) len_one).mono ?_
   rintro e wm ⟨rfl,hk2,hma⟩
   have hr:=hr.mod hk (by omega) hma
   have ht:=ht.mod hk (by omega) hma
   have hbw:=hbw.trans (hma.below (by omega) hbw.size)
   have hk:=hk2.at (y:=(M:Int)) (by omega)
   clear hk2 hma hbn hi
   go_wp2_with fail
   clear hM
   refine(Uint64_any M (by omega) _ NoA wm hk.intP).mono ?_
   rintro e w' ⟨rfl,rfl⟩
   go_wp2_with fail
   refine(hfin _).mono ?_
   rintro e w' ⟨rfl,rfl⟩
   have hng:=(World.cell?_of_block (a:=⟨b,0,none⟩) (hbw.block b hblt)).trans hneg
   go_wp2_with fail
   refine(Sign_any _ _ NoA wm ht.intP).mono ?_
   rintro e w' ⟨rfl,rfl⟩
   go_wp2_with fail
   refine bodyPost_ret (v:=.tuple #[.float .f64 (y),.bool false]) (by kernel_rfl) rfl ⟨_,rfl,hbw⟩
  ·go_wp2_with fail
   refine(Sign_any _ _ NoA w15 hr.intP).mono ?_
   rintro e w' ⟨rfl,rfl⟩
   go_wp2_with fail
   refine(Bit0_any k _ NoA w15 hk.intP (by omega)).mono ?_
   rintro e w' ⟨rfl,rfl⟩
   go_wp2_with fail
   refine(newInt_own 1 (by decide) (by decide) w15).mono ?_
   rintro e wn ⟨rfl,hi,hbn⟩
   have hk:=hk.below hbn
   have hr:=hr.below hbn
   have ht:=ht.below hbn
   have hbw:=hbw.trans (hbn.mono hbw.size)
   go_wp2_with fail
   refine(hk.addOf hk.intP hi.intP (by rw[Int.natAbs_natCast]; exact lenk) len_one).mono ?_
   rintro e wm ⟨rfl,hk2,hma⟩
   have hr:=hr.mod hk (by omega) hma
   have ht:=ht.mod hk (by omega) hma
   have hbw:=hbw.trans (hma.below (by omega) hbw.size)
   have hk:=hk2.at (y:=(M:Int)) (by omega)
   clear hk2 hma hbn hi
   go_wp2_with fail
   clear hM
   refine(Uint64_any M (by omega) _ NoA wm hk.intP).mono ?_
   rintro e w' ⟨rfl,rfl⟩
   go_wp2_with fail
   refine(hfin _).mono ?_
   rintro e w' ⟨rfl,rfl⟩
   have hun:=unary_neg
   have hng:=(World.cell?_of_block (a:=⟨b,0,none⟩) (hbw.block b hblt)).trans hneg
   go_wp2_with fail
   refine(Sign_any _ _ NoA wm ht.intP).mono ?_
   rintro e w' ⟨rfl,rfl⟩
   go_wp2_with fail
   refine bodyPost_ret (v:=.tuple #[.float .f64 (flip y),.bool false]) (by kernel_rfl) rfl ⟨_,by rw[show flip y=sgw true y from sgw_xor (s:=false) hy],hbw⟩
 ·rw[hc.1]
  have hz:¬rest=0:=by rw[hc.2]; exact Nat.ne_of_gt (Nat.two_pow_pos _)
  clear hc
  cases ng
  ·go_wp2_with fail
   refine(Sign_any _ _ NoA w15 hr.intP).mono ?_
   rintro e w' ⟨rfl,rfl⟩
   go_wp2_with fail
   refine(Bit0_any k _ NoA w15 hk.intP (by omega)).mono ?_
   rintro e w' ⟨rfl,rfl⟩
   go_wp2_with fail
   have hk:=hk.at (y:=(M:Int)) (by omega)
   clear hM
   refine(Uint64_any M (by omega) _ NoA w15 hk.intP).mono ?_
   rintro e w' ⟨rfl,rfl⟩
   go_wp2_with fail
   refine(hfin _).mono ?_
   rintro e w' ⟨rfl,rfl⟩
   have hng:=(World.cell?_of_block (a:=⟨b,0,none⟩) (hbw.block b hblt)).trans hneg
   go_wp2_with fail
   refine(Sign_any _ _ NoA w15 ht.intP).mono ?_
   rintro e w' ⟨rfl,rfl⟩
   go_wp2_with fail
   refine bodyPost_ret (v:=.tuple #[.float .f64 (y),.bool false]) (by kernel_rfl) rfl ⟨_,rfl,hbw⟩
  ·go_wp2_with fail
   refine(Sign_any _ _ NoA w15 hr.intP).mono ?_
   rintro e w' ⟨rfl,rfl⟩
   go_wp2_with fail
   refine(Bit0_any k _ NoA w15 hk.intP (by omega)).mono ?_
   rintro e w' ⟨rfl,rfl⟩
   go_wp2_with fail
   have hk:=hk.at (y:=(M:Int)) (by omega)
   clear hM
   refine(Uint64_any M (by omega) _ NoA w15 hk.intP).mono ?_
   rintro e w' ⟨rfl,rfl⟩
   go_wp2_with fail
   refine(hfin _).mono ?_
   rintro e w' ⟨rfl,rfl⟩
   have hun:=unary_neg
   have hng:=(World.cell?_of_block (a:=⟨b,0,none⟩) (hbw.block b hblt)).trans hneg
   go_wp2_with fail
   refine(Sign_any _ _ NoA w15 ht.intP).mono ?_
   rintro e w' ⟨rfl,rfl⟩
   go_wp2_with fail
   refine bodyPost_ret (v:=.tuple #[.float .f64 (flip y),.bool false]) (by kernel_rfl) rfl ⟨_,by rw[show flip y=sgw true y from sgw_xor (s:=false) hy],hbw⟩
end Go.Proofs.YthklnbaddobieaaGreat
