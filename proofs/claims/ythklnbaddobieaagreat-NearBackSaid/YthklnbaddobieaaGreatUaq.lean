/- Laws for the walk. -/
import Derived.Test.YthklnbaddobieaaGreatUap
set_option linter.unusedVariables false
set_option maxHeartbeats 4000000
namespace Go.Proofs.YthklnbaddobieaaGreat
open Go.RowKit Tr
theorem F64_B0(q:Rat)(vx:Value)(w:World)(hx:RatP q vx w NoA)(hl:RL q 2048)(h0:q≠0)(bn bd u:Nat)(hbn:BitsOf q.num.natAbs bn)(hbd:BitsOf q.den bd)(lbn:bn≤65536)(lbd:bd≤65536)(hu0:0<u)(hu:66 - (bn:Int)+bd=-(u:Int))
  (N D qq rr Q:Nat) (hN:N=q.num.natAbs) (hD:D=q.den*2 ^ u) (hqq:qq=N / D) (hrr:rr=N % D) (hQ:BitsOf qq Q) (hQ67:Q=66∨Q=67) (low:Nat) (hlow:max ((Q:Int) - 53) (-(u:Int) - 1074)=(low:Int)) (hlo:low≤Q+1) (hlow1:0<low)
  (k rest M:Nat) (hk:k=qq / 2 ^ low) (hrest:rest=qq % 2 ^ low) (hM:M=if 2 ^ (low - 1)<rest∨(rest=2 ^ (low - 1)∧(rr≠0∨k % 2=1)) then k+1 else k) (hM2:M≤9007199254740992)
  (y:Nat) (hfin:∀ w,Calls Tryz.prog 95 #[.float .f64 (floatOfInt .f64 (M:Int)),.int .i64 ((low:Int)+u)] w fun r w'=>r=.returned (.float .f64 y)∧w=w') (hy:y≤GW+1) :
  Calls Tryz.prog 36 #[vx] w fun e w'=>∃ b,e=.returned (.tuple #[.float .f64 (sgw (decide (q.num<0)) y),.bool b])∧Below w.heap.size w w':=by
 obtain⟨b,rfl⟩:=hx.shape
 obtain⟨_,eb,hxn,hxd⟩:=id hx
 cases eb
 have hblt:b<w.heap.size:=by obtain⟨_,_,_,e,h,_⟩:=hxn; cases e; exact h
 have hcell:=hxn.cells
 obtain⟨p1,n1,c1,_,hneg,hw1,_⟩:=hcell
 obtain⟨ng,hng⟩:∃ ng,ng=decide (q.num<0):=⟨_,rfl⟩
 rw[←hng] at hneg ⊢
 clear hng
 have hs0:¬q.num.sign=0:=by
  intro h
  rw[Int.sign_eq_zero_iff_zero] at h
  exact h0 (Rat.num_eq_zero.1 h)
 have nb:q.num.natAbs<2 ^ bn:=hbn.1
 have db:q.den<2 ^ bd:=hbd.1
 have hln:(words q.num.natAbs).length<1000000:=by have:=hl.1; omega
 have hld:(words q.den).length<1000000:=by have:=hl.2; omega
 have HX:=Lib.hid (And.intro hx (And.intro hxn (And.intro hln hld)))
 have HV:=Lib.hid (And.intro hbn hbd)
 clear hx hxn hxd hl h0 hw1
 go_enter Tryz.func36,Tryz.ntmps36
 go_wp2_with fail
 refine(RSign_any q _ NoA w HX.out.1).mono ?_
 rintro e w' ⟨rfl,rfl⟩
 go_wp2_with fail
 have hb1:Below w.heap.size w (w.alloc (.cells #[.bool false,.slice none 0 0] 131)):=br.alloc (Nat.le_refl _) _
 refine((ownI_new w).abs (HX.out.2.1.below hb1) (by have:=HX.out.2.2.1; omega)).mono ?_
 rintro e w2 ⟨rfl,hn,hm2⟩
 have hb2:Below w.heap.size w w2:=hb1.trans (hm2.below (Nat.le_refl _) hb1.size)
 have hx2:RatP q (.pointer (some ⟨b,0,none⟩)) w2 (fun x=>x=w.heap.size):=(HX.out.1.below hb2).avoid hn.noW (by omega)
 go_wp2_with fail
 refine(den_any q _ _ w2 hx2 hn.noW).mono ?_
 rintro e w3 ⟨vd,rfl,hb3,hd⟩
 have hn3:=hn.below hb3
 have hbw3:Below w.heap.size w w3:=hb2.trans (hb3.mono hb2.size)
 clear hn hm2 hx2 hb2 hb3 hb1
 go_wp2_with fail
 refine(BitLen_any _ _ NoA w3 hn3.intP (by rw[Int.natAbs_natCast]; have:=HX.out.2.2.1; omega)).mono ?_
 rintro e w4 ⟨bn',rfl,hbn',_,hb4⟩
 rw[Int.natAbs_natCast] at hbn'
 obtain rfl:=bits_one hbn'.out HV.out.1
 have hn4:=hn3.below hb4
 have hd4:=hd.below hb4
 have hbw4:Below w.heap.size w w4:=hbw3.trans (hb4.mono hbw3.size)
 clear hn3 hd hb4 hbw3 hbn'
 go_wp2_with fail
 refine(BitLen_any _ _ _ w4 hd4 (by rw[Int.natAbs_natCast]; have:=HX.out.2.2.2; omega)).mono ?_
 rintro e w5 ⟨bd',rfl,hbd',_,hb5⟩
 rw[Int.natAbs_natCast] at hbd'
 obtain rfl:=bits_one hbd'.out HV.out.2
 have hn5:=hn4.below hb5
 have hd5:=hd4.below hb5
 have hbw5:Below w.heap.size w w5:=hbw4.trans (hb5.mono hbw4.size)
 clear hn4 hd4 hb5 hbw4 hbd'
 go_wp2_with fail
 have lenN:(words N).length<1000000:=by rw[hN]; exact HX.out.2.2.1
 have lenD:(words (q.den*2 ^ u)).length<1000000:=by
  refine len_bits (K:=bd'+u) ?_ (by omega)
  rw[Nat.pow_add]; exact Nat.mul_lt_mul_of_pos_right HV.out.2.1 (Nat.two_pow_pos _)
 have hg0:Below w5.heap.size w5 (w5.alloc (.cells #[.bool false,.slice none 0 0] 131)):=br.alloc (Nat.le_refl _) _
 refine((ownI_new w5).lshOf (hd5.noA.below hg0) (by rw[Int.natAbs_natCast]; exact HX.out.2.2.2) (by omega) (by rw[Int.natAbs_natCast]; exact lenD)).mono ?_
 rintro e w6 ⟨rfl,hd6,hm6⟩
 have hd6:=hd6.at (y:=(D:Int)) (by rw[hD]; simp)
 have hb6:Below w5.heap.size w5 w6:=hg0.trans (hm6.below (Nat.le_refl _) hg0.size)
 have hn6:=(hn5.below hb6).at (y:=(N:Int)) (by rw[hN])
 have hbw6:Below w.heap.size w w6:=hbw5.trans (hb6.mono hbw5.size)
 have hcD:0<D:=by rw[hD]; exact Nat.mul_pos (Nat.pos_of_ne_zero q.den_nz) (Nat.two_pow_pos _)
 clear hn5 hd5 hm6 hbw5 hN hD hb6 hg0 lenD
 go_wp2_with fail
 have ha1:Below w6.heap.size w6 (w6.alloc (.cells #[.bool false,.slice none 0 0] 131)):=br.alloc (Nat.le_refl _) _
 have ha2:Below w6.heap.size w6 ((w6.alloc (.cells #[.bool false,.slice none 0 0] 131)).alloc (.cells #[.bool false,.slice none 0 0] 131)):=ha1.alloc (by simp) _
 have ho1:OwnI w6.heap.size 0 ((w6.alloc (.cells #[.bool false,.slice none 0 0] 131)).alloc (.cells #[.bool false,.slice none 0 0] 131)):=(ownI_new w6).below (br.alloc (Nat.le_refl _) _)
 have ho2:=ownI_new (w6.alloc (.cells #[.bool false,.slice none 0 0] 131))
 rw[show(w6.alloc (.cells #[.bool false,.slice none 0 0] 131)).heap.size=w6.heap.size+1 by simp] at ho2
 refine(ho1.quoOf ho2 (by omega) (hn6.intP.below ha2) (hd6.intP.below ha2) hcD lenN).mono ?_
 rintro e w7 ⟨rfl,hq7,hr7,wx,mx1,mx2⟩
 rw[←hqq] at hq7
 rw[←hrr] at hr7
 have hb7:Below w6.heap.size w6 w7:=(ha2.trans (mx1.below (by omega) ha2.size)).trans (mx2.below (Nat.le_refl _) (Nat.le_trans ha2.size mx1.size))
 have hbw7:Below w.heap.size w w7:=hbw6.trans (hb7.mono hbw6.size)
 obtain⟨qB,hqB⟩:∃ qB,qB=w6.heap.size:=⟨_,rfl⟩
 have hqs:w.heap.size≤qB:=by rw[hqB]; exact hbw6.size
 rw[←hqB] at hq7 hr7 ⊢
 clear ha1 ha2 ho1 ho2 mx1 mx2 hn6 hd6 hb7 hbw6 hqB lenN hqq hrr
 go_wp2_with fail
 have lenq:(words qq).length<1000000:=len_bits (K:=Q) hQ.1 (by omega)
 refine(BitLen_any _ _ NoA w7 hq7.intP (by rw[Int.natAbs_natCast]; omega)).mono ?_
 rintro e w8 ⟨Q',rfl,hQ',_,hb8⟩
 rw[Int.natAbs_natCast] at hQ'
 obtain rfl:=bits_one hQ hQ'.out
 have hq8:=hq7.below hb8
 have hr8:=hr7.below hb8
 have hbw8:Below w.heap.size w w8:=hbw7.trans (hb8.mono hbw7.size)
 clear hq7 hr7 hb8 hbw7 hQ'
 go_wp2_with fail
 refine(BitLen_any _ _ NoA w8 hq8.intP (by rw[Int.natAbs_natCast]; omega)).mono ?_
 rintro e w9 ⟨Q',rfl,hQ',_,hb9⟩
 rw[Int.natAbs_natCast] at hQ'
 obtain rfl:=bits_one hQ hQ'.out
 have hq9:=hq8.below hb9
 have hr9:=hr8.below hb9
 have hbw9:Below w.heap.size w w9:=hbw8.trans (hb9.mono hbw8.size)
 clear hq8 hr8 hb9 hbw8 hQ'
 go_wp2_with fail
 have hg1:Below w9.heap.size w9 (w9.alloc (.cells #[.bool false,.slice none 0 0] 131)):=br.alloc (Nat.le_refl _) _
 refine((ownI_new w9).rshOf (hq9.intP.below hg1) lenq (by omega)).mono ?_
 rintro e w10 ⟨rfl,hk10,hm10⟩
 rw[←hk] at hk10
 have hb10:Below w9.heap.size w9 w10:=hg1.trans (hm10.below (Nat.le_refl _) hg1.size)
 have hq10:=hq9.below hb10
 have hr10:=hr9.below hb10
 have hbw10:Below w.heap.size w w10:=hbw9.trans (hb10.mono hbw9.size)
 obtain⟨mB,hmB⟩:∃ mB,mB=w9.heap.size:=⟨_,rfl⟩
 have hms:w.heap.size≤mB:=by rw[hmB]; exact hbw9.size
 have hqm:qB<mB∧qB+1<mB:=by rw[hmB]; exact⟨hq9.lt,hr9.lt⟩
 rw[←hmB] at hk10 ⊢
 clear hg1 hm10 hb10 hq9 hr9 hbw9 hmB
 go_wp2_with fail
 have lenk:(words k).length<1000000:=len_bits (K:=Q) (Nat.lt_of_le_of_lt (by rw[hk]; exact Nat.div_le_self _ _) hQ.1) (by omega)
 have lenkl:(words (k*2 ^ low)).length<1000000:=len_bits (K:=Q) (Nat.lt_of_le_of_lt (by rw[hk]; exact Nat.div_mul_le_self _ _) hQ.1) (by omega)
 have ha1:Below w10.heap.size w10 (w10.alloc (.cells #[.bool false,.slice none 0 0] 131)):=br.alloc (Nat.le_refl _) _
 have ha2:Below w10.heap.size w10 ((w10.alloc (.cells #[.bool false,.slice none 0 0] 131)).alloc (.cells #[.bool false,.slice none 0 0] 131)):=ha1.alloc (by simp) _
 have ho1:OwnI w10.heap.size 0 ((w10.alloc (.cells #[.bool false,.slice none 0 0] 131)).alloc (.cells #[.bool false,.slice none 0 0] 131)):=(ownI_new w10).below (br.alloc (Nat.le_refl _) _)
 have ho2:=ownI_new (w10.alloc (.cells #[.bool false,.slice none 0 0] 131))
 rw[show(w10.alloc (.cells #[.bool false,.slice none 0 0] 131)).heap.size=w10.heap.size+1 by simp] at ho2
 refine(ho2.lshOf (hk10.intP.below ha2) (by rw[Int.natAbs_natCast]; exact lenk) (by omega) (by rw[Int.natAbs_natCast]; exact lenkl)).mono ?_
 rintro e w11 ⟨rfl,hl11,hm11⟩
 have hl11:=hl11.at (y:=((k*2 ^ low:Nat):Int)) (by simp)
 have ho11:=ho1.mod ho2 (by omega) hm11
 have hb11:Below w10.heap.size w10 w11:=ha2.trans (hm11.below (by omega) ha2.size)
 clear ha1 ha2 ho1 ho2 hm11
 go_wp2_with fail
 refine(ho11.subOf (hq10.intP.below hb11) hl11.intP (by rw[Int.natAbs_natCast]; exact lenq) (by rw[Int.natAbs_natCast]; exact lenkl)).mono ?_
 rintro e w12 ⟨rfl,ht12,hm12⟩
 have ht12:=ht12.at (y:=(rest:Int)) (by
  have:=Nat.div_add_mod qq (2 ^ low)
  rw[←hk,←hrest,Nat.mul_comm] at this
  omega)
 have hb12:Below w10.heap.size w10 w12:=hb11.trans (hm12.below (Nat.le_refl _) hb11.size)
 have hr12:=hr10.below hb12
 have hk12:=hk10.below hb12
 have hbw12:Below w.heap.size w w12:=hbw10.trans (hb12.mono hbw10.size)
 obtain⟨tB,htB⟩:∃ tB,tB=w10.heap.size:=⟨_,rfl⟩
 have hts:w.heap.size≤tB:=by rw[htB]; exact hbw10.size
 have hmt:mB<tB:=by rw[htB]; exact hk10.lt
 have lenr:(words rest).length<1000000:=len_bits (K:=Q) (Nat.lt_of_le_of_lt (by rw[hrest]; exact Nat.mod_le _ _) hQ.1) (by omega)
 rw[←htB] at ht12 ⊢
 clear hk hb11 hb12 hm12 hl11 ho11 hq10 hr10 hk10 hbw10 htB lenkl lenq hrest
 go_wp2_with fail
 have hg1:Below w12.heap.size w12 (w12.alloc (.cells #[.bool false,.slice none 0 0] 131)):=br.alloc (Nat.le_refl _) _
 refine(newInt_own 1 (by decide) (by decide) _).mono ?_
 rintro e w13 ⟨rfl,hi13,hb13⟩
 rw[show(w12.alloc (.cells #[.bool false,.slice none 0 0] 131)).heap.size=w12.heap.size+1 by simp] at hi13 hb13
 have ho13:=(ownI_new w12).below (by simpa using hb13)
 have hb13':Below w12.heap.size w12 w13:=hg1.trans (hb13.mono (by omega))
 go_wp2_with fail
 rw[show(low:Int) - 1=((low - 1:Nat):Int) by omega]
 have half2:(words (2 ^ (low - 1))).length<1000000:=len_bits (K:=low) (Nat.pow_lt_pow_right (by decide) (by omega)) (by omega)
 refine(ho13.lshOf hi13.intP len_one (by omega) (by rw[show(1:Int).natAbs=1 from rfl,Nat.one_mul]; exact half2)).mono ?_
 rintro e w14 ⟨rfl,hh14,hm14⟩
 have hh14:=hh14.at (y:=((2 ^ (low - 1):Nat):Int)) (by simp)
 have hb14:Below w12.heap.size w12 w14:=hb13'.trans (hm14.below (Nat.le_refl _) hb13'.size)
 have hk14:=hk12.below hb14
 have hr14:=hr12.below hb14
 have ht14:=ht12.below hb14
 have hbw14:Below w.heap.size w w14:=hbw12.trans (hb14.mono hbw12.size)
 clear hb13 hb13' ho13 hi13 hb14 hm14 hk12 hr12 ht12 hbw12 hg1
 go_wp2_with fail
 refine(Cmp_any _ _ _ _ NoA w14 ht14.intP hh14.intP (by rw[Int.natAbs_natCast]; omega) (by rw[Int.natAbs_natCast]; omega)).mono ?_
 rintro e w15 ⟨rfl,hb15⟩
 have hk:=hk14.below hb15
 have hr:=hr14.below hb15
 have ht:=ht14.below hb15
 have hbw:Below w.heap.size w w15:=hbw14.trans (hb15.mono hbw14.size)
 clear hk14 hr14 ht14 hbw14 hb15 hh14
 have hcases:=f64_cases hM
 have hy64:y<2 ^ 64:=by unfold GW at hy; omega
 clear hM
 rcases hcases with⟨hc,hM⟩|⟨hc,hz,hM⟩|⟨hc,hz,hrz,hM⟩|⟨hc,hz,hrz,hM⟩|⟨hc,hrz,hM⟩|⟨hc,hrz,hkz,hM⟩|⟨hc,hrz,hkz,hM⟩
 ·rw[hc.1]
  cases ng
  ·go_wp2_with fail
   refine(newInt_own 1 (by decide) (by decide) w15).mono ?_
   rintro e wn ⟨rfl,hi,hbn⟩
   have hk:=hk.below hbn
   have hr:=hr.below hbn
   have ht:=ht.below hbn
   have hbw:=hbw.trans (hbn.mono hbw.size)
   go_wp2_with fail
   refine(hk.addOf hk.intP hi.intP (by rw[Int.natAbs_natCast]; exact lenk) len_one).mono ?_
   rintro e wm ⟨rfl,hk2,hma⟩
   have hr:=hr.mod hk (by omega) hma
   have ht:=ht.mod hk (by omega) hma
   have hbw:=hbw.trans (hma.below (by omega) hbw.size)
   have hk:=hk2.at (y:=(M:Int)) (by omega)
   clear hk2 hma hbn hi
   go_wp2_with fail
   clear hM
   refine(Uint64_any M (by omega) _ NoA wm hk.intP).mono ?_
   rintro e w' ⟨rfl,rfl⟩
   go_wp2_with fail
   refine(hfin _).mono ?_
   rintro e w' ⟨rfl,rfl⟩
   have hng:=(World.cell?_of_block (a:=⟨b,0,none⟩) (hbw.block b hblt)).trans hneg
   go_wp2_with fail
   refine(Sign_any _ _ NoA wm ht.intP).mono ?_
   rintro e w' ⟨rfl,rfl⟩
   go_wp2_with fail
   refine bodyPost_ret (v:=.tuple #[.float .f64 (y),.bool false]) (by kernel_rfl) rfl ⟨_,rfl,hbw⟩
  ·go_wp2_with fail
   refine(newInt_own 1 (by decide) (by decide) w15).mono ?_
   rintro e wn ⟨rfl,hi,hbn⟩
   have hk:=hk.below hbn
   have hr:=hr.below hbn
   have ht:=ht.below hbn
   have hbw:=hbw.trans (hbn.mono hbw.size)
   go_wp2_with fail
   refine(hk.addOf hk.intP hi.intP (by rw[Int.natAbs_natCast]; exact lenk) len_one).mono ?_
   rintro e wm ⟨rfl,hk2,hma⟩
   have hr:=hr.mod hk (by omega) hma
   have ht:=ht.mod hk (by omega) hma
   have hbw:=hbw.trans (hma.below (by omega) hbw.size)
   have hk:=hk2.at (y:=(M:Int)) (by omega)
   clear hk2 hma hbn hi
   go_wp2_with fail
   clear hM
   refine(Uint64_any M (by omega) _ NoA wm hk.intP).mono ?_
   rintro e w' ⟨rfl,rfl⟩
   go_wp2_with fail
   refine(hfin _).mono ?_
   rintro e w' ⟨rfl,rfl⟩
   have hun:=unary_neg
   have hng:=(World.cell?_of_block (a:=⟨b,0,none⟩) (hbw.block b hblt)).trans hneg
   go_wp2_with fail
   refine(Sign_any _ _ NoA wm ht.intP).mono ?_
   rintro e w' ⟨rfl,rfl⟩
   go_wp2_with fail
   refine bodyPost_ret (v:=.tuple #[.float .f64 (flip y),.bool false]) (by kernel_rfl) rfl ⟨_,by rw[show flip y=sgw true y from sgw_xor (s:=false) hy],hbw⟩
 ·rw[hc.1]
  cases ng
  ·go_wp2_with fail
   have hk:=hk.at (y:=(M:Int)) (by omega)
   clear hM
   refine(Uint64_any M (by omega) _ NoA w15 hk.intP).mono ?_
   rintro e w' ⟨rfl,rfl⟩
   go_wp2_with fail
   refine(hfin _).mono ?_
   rintro e w' ⟨rfl,rfl⟩
   have hng:=(World.cell?_of_block (a:=⟨b,0,none⟩) (hbw.block b hblt)).trans hneg
   go_wp2_with fail
   refine(Sign_any _ _ NoA w15 ht.intP).mono ?_
   rintro e w' ⟨rfl,rfl⟩
   go_wp2_with fail
   refine bodyPost_ret (v:=.tuple #[.float .f64 (y),.bool false]) (by kernel_rfl) rfl ⟨_,rfl,hbw⟩
  ·go_wp2_with fail
   have hk:=hk.at (y:=(M:Int)) (by omega)
   clear hM
   refine(Uint64_any M (by omega) _ NoA w15 hk.intP).mono ?_
   rintro e w' ⟨rfl,rfl⟩
   go_wp2_with fail
   refine(hfin _).mono ?_
   rintro e w' ⟨rfl,rfl⟩
   have hun:=unary_neg
   have hng:=(World.cell?_of_block (a:=⟨b,0,none⟩) (hbw.block b hblt)).trans hneg
   go_wp2_with fail
   refine(Sign_any _ _ NoA w15 ht.intP).mono ?_
   rintro e w' ⟨rfl,rfl⟩
   go_wp2_with fail
   refine bodyPost_ret (v:=.tuple #[.float .f64 (flip y),.bool false]) (by kernel_rfl) rfl ⟨_,by rw[show flip y=sgw true y from sgw_xor (s:=false) hy],hbw⟩
 ·rw[hc.1]
  cases ng
  ·go_wp2_with fail
   have hk:=hk.at (y:=(M:Int)) (by omega)
   clear hM
   refine(Uint64_any M (by omega) _ NoA w15 hk.intP).mono ?_
   rintro e w' ⟨rfl,rfl⟩
   go_wp2_with fail
   refine(hfin _).mono ?_
   rintro e w' ⟨rfl,rfl⟩
   have hng:=(World.cell?_of_block (a:=⟨b,0,none⟩) (hbw.block b hblt)).trans hneg
   go_wp2_with fail
   refine(Sign_any _ _ NoA w15 ht.intP).mono ?_
   rintro e w' ⟨rfl,rfl⟩
   go_wp2_with fail
   refine(Sign_any _ _ NoA w15 hr.intP).mono ?_
   rintro e w' ⟨rfl,rfl⟩
   go_wp2_with fail
   refine bodyPost_ret (v:=.tuple #[.float .f64 (y),.bool false]) (by kernel_rfl) rfl ⟨_,rfl,hbw⟩
  ·go_wp2_with fail
   have hk:=hk.at (y:=(M:Int)) (by omega)
   clear hM
   refine(Uint64_any M (by omega) _ NoA w15 hk.intP).mono ?_
   rintro e w' ⟨rfl,rfl⟩
   go_wp2_with fail
   refine(hfin _).mono ?_
   rintro e w' ⟨rfl,rfl⟩
   have hun:=unary_neg
   have hng:=(World.cell?_of_block (a:=⟨b,0,none⟩) (hbw.block b hblt)).trans hneg
   go_wp2_with fail
   refine(Sign_any _ _ NoA w15 ht.intP).mono ?_
   rintro e w' ⟨rfl,rfl⟩
   go_wp2_with fail
   refine(Sign_any _ _ NoA w15 hr.intP).mono ?_
   rintro e w' ⟨rfl,rfl⟩
   go_wp2_with fail
   refine bodyPost_ret (v:=.tuple #[.float .f64 (flip y),.bool false]) (by kernel_rfl) rfl ⟨_,by rw[show flip y=sgw true y from sgw_xor (s:=false) hy],hbw⟩
 ·rw[hc.1]
  cases ng
  ·go_wp2_with fail
   have hk:=hk.at (y:=(M:Int)) (by omega)
   clear hM
   refine(Uint64_any M (by omega) _ NoA w15 hk.intP).mono ?_
   rintro e w' ⟨rfl,rfl⟩
   go_wp2_with fail
   refine(hfin _).mono ?_
   rintro e w' ⟨rfl,rfl⟩
   have hng:=(World.cell?_of_block (a:=⟨b,0,none⟩) (hbw.block b hblt)).trans hneg
   go_wp2_with fail
   refine(Sign_any _ _ NoA w15 ht.intP).mono ?_
   rintro e w' ⟨rfl,rfl⟩
   go_wp2_with fail
   refine(Sign_any _ _ NoA w15 hr.intP).mono ?_
   rintro e w' ⟨rfl,rfl⟩
   go_wp2_with fail
   obtain⟨bi,hbi⟩:=isinf_some (x:=y) hy64
   refine(hbi _).mono ?_
   rintro e w' ⟨rfl,rfl⟩
   cases bi
   ·go_wp2_with fail
    refine bodyPost_ret (v:=.tuple #[.float .f64 (y),.bool true]) (by kernel_rfl) rfl ⟨_,rfl,hbw⟩
   ·go_wp2_with fail
    refine bodyPost_ret (v:=.tuple #[.float .f64 (y),.bool false]) (by kernel_rfl) rfl ⟨_,rfl,hbw⟩
  ·go_wp2_with fail
   have hk:=hk.at (y:=(M:Int)) (by omega)
   clear hM
   refine(Uint64_any M (by omega) _ NoA w15 hk.intP).mono ?_
   rintro e w' ⟨rfl,rfl⟩
   go_wp2_with fail
   refine(hfin _).mono ?_
   rintro e w' ⟨rfl,rfl⟩
   have hun:=unary_neg
   have hng:=(World.cell?_of_block (a:=⟨b,0,none⟩) (hbw.block b hblt)).trans hneg
   go_wp2_with fail
   refine(Sign_any _ _ NoA w15 ht.intP).mono ?_
   rintro e w' ⟨rfl,rfl⟩
   go_wp2_with fail
   refine(Sign_any _ _ NoA w15 hr.intP).mono ?_
   rintro e w' ⟨rfl,rfl⟩
   go_wp2_with fail
   obtain⟨bi,hbi⟩:=isinf_some (x:=flip y) (flip_lt hy)
   refine(hbi _).mono ?_
   rintro e w' ⟨rfl,rfl⟩
   cases bi
   ·go_wp2_with fail
    refine bodyPost_ret (v:=.tuple #[.float .f64 (flip y),.bool true]) (by kernel_rfl) rfl ⟨_,by rw[show flip y=sgw true y from sgw_xor (s:=false) hy],hbw⟩
   ·go_wp2_with fail
    refine bodyPost_ret (v:=.tuple #[.float .f64 (flip y),.bool false]) (by kernel_rfl) rfl ⟨_,by rw[show flip y=sgw true y from sgw_xor (s:=false) hy],hbw⟩
 ·rw[hc.1]
  have hz:¬rest=0:=by rw[hc.2]; exact Nat.ne_of_gt (Nat.two_pow_pos _)
  clear hc
  cases ng
  ·go_wp2_with fail
   refine(Sign_any _ _ NoA w15 hr.intP).mono ?_
   rintro e w' ⟨rfl,rfl⟩
   go_wp2_with fail
   refine(newInt_own 1 (by decide) (by decide) w15).mono ?_
   rintro e wn ⟨rfl,hi,hbn⟩
   have hk:=hk.below hbn
   have hr:=hr.below hbn
   have ht:=ht.below hbn
   have hbw:=hbw.trans (hbn.mono hbw.size)
   go_wp2_with fail
   refine(hk.addOf hk.intP hi.intP (by rw[Int.natAbs_natCast]; exact lenk) len_one).mono ?_
   rintro e wm ⟨rfl,hk2,hma⟩
   have hr:=hr.mod hk (by omega) hma
   have ht:=ht.mod hk (by omega) hma
   have hbw:=hbw.trans (hma.below (by omega) hbw.size)
   have hk:=hk2.at (y:=(M:Int)) (by omega)
   clear hk2 hma hbn hi
   go_wp2_with fail
   clear hM
   refine(Uint64_any M (by omega) _ NoA wm hk.intP).mono ?_
   rintro e w' ⟨rfl,rfl⟩
   go_wp2_with fail
   refine(hfin _).mono ?_
   rintro e w' ⟨rfl,rfl⟩
   have hng:=(World.cell?_of_block (a:=⟨b,0,none⟩) (hbw.block b hblt)).trans hneg
   go_wp2_with fail
   refine(Sign_any _ _ NoA wm ht.intP).mono ?_
   rintro e w' ⟨rfl,rfl⟩
   go_wp2_with fail
   refine bodyPost_ret (v:=.tuple #[.float .f64 (y),.bool false]) (by kernel_rfl) rfl ⟨_,rfl,hbw⟩
  ·go_wp2_with fail
   refine(Sign_any _ _ NoA w15 hr.intP).mono ?_
   rintro e w' ⟨rfl,rfl⟩
   go_wp2_with fail
   refine(newInt_own 1 (by decide) (by decide) w15).mono ?_
   rintro e wn ⟨rfl,hi,hbn⟩
   have hk:=hk.below hbn
   have hr:=hr.below hbn
   have ht:=ht.below hbn
   have hbw:=hbw.trans (hbn.mono hbw.size)
   go_wp2_with fail
   refine(hk.addOf hk.intP hi.intP (by rw[Int.natAbs_natCast]; exact lenk) len_one).mono ?_
   rintro e wm ⟨rfl,hk2,hma⟩
   have hr:=hr.mod hk (by omega) hma
   have ht:=ht.mod hk (by omega) hma
   have hbw:=hbw.trans (hma.below (by omega) hbw.size)
   have hk:=hk2.at (y:=(M:Int)) (by omega)
   clear hk2 hma hbn hi
   go_wp2_with fail
   clear hM
   refine(Uint64_any M (by omega) _ NoA wm hk.intP).mono ?_
   rintro e w' ⟨rfl,rfl⟩
   go_wp2_with fail
   refine(hfin _).mono ?_
   rintro e w' ⟨rfl,rfl⟩
   have hun:=unary_neg
   have hng:=(World.cell?_of_block (a:=⟨b,0,none⟩) (hbw.block b hblt)).trans hneg
   go_wp2_with fail
   refine(Sign_any _ _ NoA wm ht.intP).mono ?_
   rintro e w' ⟨rfl,rfl⟩
   go_wp2_with fail
   refine bodyPost_ret (v:=.tuple #[.float .f64 (flip y),.bool false]) (by kernel_rfl) rfl ⟨_,by rw[show flip y=sgw true y from sgw_xor (s:=false) hy],hbw⟩
 ·rw[hc.1]
  have hz:¬rest=0:=by rw[hc.2]; exact Nat.ne_of_gt (Nat.two_pow_pos _)
  clear hc
  cases ng
  ·go_wp2_with fail
   refine(Sign_any _ _ NoA w15 hr.intP).mono ?_
   rintro e w' ⟨rfl,rfl⟩
   go_wp2_with fail
   refine(Bit0_any k _ NoA w15 hk.intP (by omega)).mono ?_
   rintro e w' ⟨rfl,rfl⟩
   go_wp2_with fail
   refine(newInt_own 1 (by decide) (by decide) w15).mono ?_
   rintro e wn ⟨rfl,hi,hbn⟩
   have hk:=hk.below hbn
   have hr:=hr.below hbn
   have ht:=ht.below hbn
   have hbw:=hbw.trans (hbn.mono hbw.size)
   go_wp2_with fail
   refine(hk.addOf hk.intP hi.intP (by rw[Int.natAbs_natCast]; exact lenk) len_one).mono ?_
   rintro e wm ⟨rfl,hk2,hma⟩
   have hr:=hr.mod hk (by omega) hma
   have ht:=ht.mod hk (by omega) hma
   have hbw:=hbw.trans (hma.below (by omega) hbw.size)
   have hk:=hk2.at (y:=(M:Int)) (by omega)
   clear hk2 hma hbn hi
   go_wp2_with fail
   clear hM
   refine(Uint64_any M (by omega) _ NoA wm hk.intP).mono ?_
   rintro e w' ⟨rfl,rfl⟩
   go_wp2_with fail
   refine(hfin _).mono ?_
   rintro e w' ⟨rfl,rfl⟩
   have hng:=(World.cell?_of_block (a:=⟨b,0,none⟩) (hbw.block b hblt)).trans hneg
   go_wp2_with fail
   refine(Sign_any _ _ NoA wm ht.intP).mono ?_
   rintro e w' ⟨rfl,rfl⟩
   go_wp2_with fail
   refine bodyPost_ret (v:=.tuple #[.float .f64 (y),.bool false]) (by kernel_rfl) rfl ⟨_,rfl,hbw⟩
  ·go_wp2_with fail
   refine(Sign_any _ _ NoA w15 hr.intP).mono ?_
   rintro e w' ⟨rfl,rfl⟩
   go_wp2_with fail
   refine(Bit0_any k _ NoA w15 hk.intP (by omega)).mono ?_
   rintro e w' ⟨rfl,rfl⟩
   go_wp2_with fail
   refine(newInt_own 1 (by decide) (by decide) w15).mono ?_
   rintro e wn ⟨rfl,hi,hbn⟩
   have hk:=hk.below hbn
   have hr:=hr.below hbn
   have ht:=ht.below hbn
   have hbw:=hbw.trans (hbn.mono hbw.size)
   go_wp2_with fail
   refine(hk.addOf hk.intP hi.intP (by rw[Int.natAbs_natCast]; exact lenk) len_one).mono ?_
   rintro e wm ⟨rfl,hk2,hma⟩
   have hr:=hr.mod hk (by omega) hma
   have ht:=ht.mod hk (by omega) hma
   have hbw:=hbw.trans (hma.below (by omega) hbw.size)
   have hk:=hk2.at (y:=(M:Int)) (by omega)
   clear hk2 hma hbn hi
   go_wp2_with fail
   clear hM
   refine(Uint64_any M (by omega) _ NoA wm hk.intP).mono ?_
   rintro e w' ⟨rfl,rfl⟩
   go_wp2_with fail
   refine(hfin _).mono ?_
   rintro e w' ⟨rfl,rfl⟩
   have hun:=unary_neg
   have hng:=(World.cell?_of_block (a:=⟨b,0,none⟩) (hbw.block b hblt)).trans hneg
   go_wp2_with fail
   refine(Sign_any _ _ NoA wm ht.intP).mono ?_
   rintro e w' ⟨rfl,rfl⟩
   go_wp2_with fail
   refine bodyPost_ret (v:=.tuple #[.float .f64 (flip y),.bool false]) (by kernel_rfl) rfl ⟨_,by rw[show flip y=sgw true y from sgw_xor (s:=false) hy],hbw⟩
 ·rw[hc.1]
  have hz:¬rest=0:=by rw[hc.2]; exact Nat.ne_of_gt (Nat.two_pow_pos _)
  clear hc
  cases ng
  ·go_wp2_with fail
   refine(Sign_any _ _ NoA w15 hr.intP).mono ?_
   rintro e w' ⟨rfl,rfl⟩
   go_wp2_with fail
   refine(Bit0_any k _ NoA w15 hk.intP (by omega)).mono ?_
   rintro e w' ⟨rfl,rfl⟩
   go_wp2_with fail
   have hk:=hk.at (y:=(M:Int)) (by omega)
   clear hM
   refine(Uint64_any M (by omega) _ NoA w15 hk.intP).mono ?_
   rintro e w' ⟨rfl,rfl⟩
   go_wp2_with fail
   refine(hfin _).mono ?_
   rintro e w' ⟨rfl,rfl⟩
   have hng:=(World.cell?_of_block (a:=⟨b,0,none⟩) (hbw.block b hblt)).trans hneg
   go_wp2_with fail
   refine(Sign_any _ _ NoA w15 ht.intP).mono ?_
   rintro e w' ⟨rfl,rfl⟩
   go_wp2_with fail
   refine bodyPost_ret (v:=.tuple #[.float .f64 (y),.bool false]) (by kernel_rfl) rfl ⟨_,rfl,hbw⟩
  ·go_wp2_with fail
   refine(Sign_any _ _ NoA w15 hr.intP).mono ?_
   rintro e w' ⟨rfl,rfl⟩
   go_wp2_with fail
   refine(Bit0_any k _ NoA w15 hk.intP (by omega)).mono ?_
   rintro e w' ⟨rfl,rfl⟩
   go_wp2_with fail
   have hk:=hk.at (y:=(M:Int)) (by omega)
   clear hM
   refine(Uint64_any M (by omega) _ NoA w15 hk.intP).mono ?_
   rintro e w' ⟨rfl,rfl⟩
   go_wp2_with fail
   refine(hfin _).mono ?_
   rintro e w' ⟨rfl,rfl⟩
   have hun:=unary_neg
   have hng:=(World.cell?_of_block (a:=⟨b,0,none⟩) (hbw.block b hblt)).trans hneg
   go_wp2_with fail
   refine(Sign_any _ _ NoA w15 ht.intP).mono ?_
   rintro e w' ⟨rfl,rfl⟩
   go_wp2_with fail
   refine bodyPost_ret (v:=.tuple #[.float .f64 (flip y),.bool false]) (by kernel_rfl) rfl ⟨_,by rw[show flip y=sgw true y from sgw_xor (s:=false) hy],hbw⟩
end Go.Proofs.YthklnbaddobieaaGreat
namespace Tr
open Ieee Go
def F64(q:Rat)(x:Nat):Prop:=∃ B,NearB (unitsQ q.num.natAbs q.den) B∧x=(if q=0 then 0 else sgw (decide (q.num<0)) (min B (GW+1)))
theorem f64_lows{Q:Nat}{up:Int}(hQ:Q=66∨Q=67):∃ low:Nat,0<low∧low≤Q+1 ∧
  (((low:Int)=Q - 53∧up - 1074≤Q - 53)∨((low:Int)=up - 1074∧(Q:Int) - 53<up - 1074∧up - 1074≤Q+1)∨(low=Q+1∧(Q:Int)+1<up - 1074)):=by
 rcases Int.lt_or_le ((Q:Int) - 53) (up - 1074) with h|h
 ·rcases Int.lt_or_le ((Q:Int)+1) (up - 1074) with h2|h2
  ·exact⟨Q+1,by omega,by omega,.inr (.inr ⟨rfl,h2⟩)⟩
  ·exact⟨(up - 1074).toNat,by omega,by omega,.inr (.inl ⟨by omega,h,h2⟩)⟩
 ·exact⟨Q - 53,by omega,by omega,.inl ⟨by omega,h⟩⟩
theorem float_word(M:Nat):floatOfInt .f64 (M:Int)=double.write (.number false M 0):=by
 show double.write (.number (decide ((M:Int)<0)) ((M:Int)).natAbs 0)=_
 rw[show decide ((M:Int)<0)=false by simp]; rfl
theorem float_lt(M:Nat):floatOfInt .f64 (M:Int)<18446744073709551616:=by
 rw[float_word]; exact Go.FloatKind.f64.format.write_lt _
end Tr
namespace Go.Proofs.YthklnbaddobieaaGreat
open Go.RowKit Tr
theorem bits_ex(n:Nat):∃ N,BitsOf n N:=by
 by_cases h:n=0
 ·exact⟨0,by rw[h]; exact bits_zero⟩
 ·exact⟨n.log2+1,Nat.lt_log2_self,.inr (by rw[Nat.add_sub_cancel]; exact Nat.log2_self_le h)⟩
theorem bits_pos{n N:Nat}(h:BitsOf n N)(hn:0<n):0<N:=by
 rcases Nat.eq_zero_or_pos N with h0|h0
 ·subst h0; have:=h.1; simp at this; omega
 ·exact h0
theorem bits_low{n N:Nat}(h:BitsOf n N)(hn:0<n):2 ^ (N - 1)≤n:=by
 rcases h.2 with h0|h0
 ·subst h0; have:=bits_pos h hn; omega
 ·exact h0
theorem bits_words'{n N j:Nat}(h:BitsOf n N)(hl:(words n).length≤j):N≤32*j:=bits_le h (lt_bits hl)
theorem bits_words{n N:Nat}(h:BitsOf n N)(hl:(words n).length≤2048):N≤65536:=by
 have:=bits_words' h hl; omega
theorem f64_fin{M B:Nat}{e:Int}(hM2:M≤9007199254740992)(he2:e≤100000)(h:(M=0∧B=0)∨(0<M∧-1074≤e∧VV B=M*2 ^ (e+1074).toNat))(w:World) :
  Calls Tryz.prog 95 #[.float .f64 (floatOfInt .f64 (M:Int)),.int .i64 e] w fun r w'=>r=.returned (.float .f64 (min B (GW+1)))∧w=w':=by
 rcases h with⟨h1,h2⟩|⟨h1,h2,h3⟩
 ·subst h1; subst h2
  rw[float_word,write_zero,Nat.zero_min]
  exact Ldexp_zero e w
 ·exact Ldexp_any h1 hM2 (by rw[float_word]; exact int_ex M h1 hM2) (float_lt M) h2 he2 h3 w
theorem F64_nz(q:Rat)(vx:Value)(w:World)(hx:RatP q vx w NoA)(hl:RL q 2048)(h0:q≠0) :
  Calls Tryz.prog 36 #[vx] w fun e w'=>∃ x b,e=.returned (.tuple #[.float .f64 x,.bool b])∧F64 q x∧Below w.heap.size w w':=by
 have hn:0<q.num.natAbs:=by
  rcases Nat.eq_zero_or_pos q.num.natAbs with h|h
  ·exact absurd (Rat.num_eq_zero.1 (Int.natAbs_eq_zero.1 h)) h0
  ·exact h
 have hd:0<q.den:=Nat.pos_of_ne_zero q.den_nz
 obtain⟨bn,hbn⟩:=bits_ex q.num.natAbs
 obtain⟨bd,hbd⟩:=bits_ex q.den
 have lbn:bn≤65536:=bits_words hbn hl.1
 have lbd:bd≤65536:=bits_words hbd hl.2
 have pbn:=bits_pos hbn hn
 have pbd:=bits_pos hbd hd
 obtain⟨up,hup⟩:∃ up:Int,up=66 - (bn:Int)+bd:=⟨_,rfl⟩
 obtain⟨hD,q1,q2⟩:=f64_q hbn.1 (bits_low hbn hn) pbn hbd.1 (bits_low hbd hd) pbd hup
 obtain⟨N,hN⟩:∃ N,N=f64N q.num.natAbs up:=⟨_,rfl⟩
 obtain⟨D,hDe⟩:∃ D,D=f64D q.den up:=⟨_,rfl⟩
 obtain⟨Q,hQ⟩:=bits_ex (N / D)
 rw[←hN,←hDe] at q1 q2
 rw[←hDe] at hD
 have hqp:0<N / D:=Nat.lt_of_lt_of_le (by decide) q1
 have hQ67:=bits_67 q1 q2 hQ.1 (bits_low hQ hqp)
 obtain⟨low,hl1,hl2,hlow⟩:=f64_lows (up:=up) hQ67
 have hdm:=Nat.div_add_mod N D
 have hkm:=Nat.div_add_mod (N / D) (2 ^ low)
 obtain⟨B,hB,hm⟩:=f64_near (n:=q.num.natAbs) (d:=q.den) (q:=N / D) (r:=N % D) (k:=N / D / 2 ^ low) (rest:=N / D % 2 ^ low) (by rw[←hDe]; exact hD) hd (by rw[←hN,←hDe,Nat.mul_comm]; exact hdm.symm) (by rw[←hDe]; exact Nat.mod_lt _ hD) hQ67 hQ.1 (bits_low hQ hqp) (by rw[Nat.mul_comm]; exact hkm.symm) (Nat.mod_lt _ (Nat.two_pow_pos _)) hlow
 obtain⟨hM2,hMB⟩:=hm _ rfl
 obtain⟨M,hM⟩:∃ M,M=(if 2 ^ (low - 1)<N / D % 2 ^ low∨(N / D % 2 ^ low=2 ^ (low - 1)∧(N % D≠0∨N / D / 2 ^ low % 2=1)) then N / D / 2 ^ low+1 else N / D / 2 ^ low):=⟨_,rfl⟩
 rw[←hM] at hM2 hMB
 have hy:min B (GW+1)≤GW+1:=Nat.min_le_right _ _
 have hres:F64 q (sgw (decide (q.num<0)) (min B (GW+1))):=⟨B,hB,by rw[if_neg h0]⟩
 rcases Int.lt_or_le up 0 with c|c
 ·have hN':N=q.num.natAbs:=by rw[hN]; unfold f64N; rw[if_neg (by omega)]
  have hD':D=q.den*2 ^ (-up).toNat:=by rw[hDe]; unfold f64D; rw[if_neg (by omega)]
  have hu:66 - (bn:Int)+bd=-(((-up).toNat:Nat):Int):=by omega
  have hlo:max ((Q:Int) - 53) (-(((-up).toNat:Nat):Int) - 1074)=(low:Int):=by omega
  have hfin:=f64_fin hM2 (e:=(low:Int)+((-up).toNat:Nat)) (by omega) (by rw[show(low:Int)+(((-up).toNat:Nat):Int)=(low:Int) - up by omega]; exact hMB)
  refine(F64_B0 q vx w hx hl h0 bn bd _ hbn hbd lbn lbd (by omega) hu N D _ _ Q hN' hD' rfl rfl hQ hQ67 low hlo hl2 hl1 _ _ M rfl rfl hM hM2 _ hfin hy).mono ?_
  rintro e w' ⟨b,rfl,hb⟩
  exact⟨_,b,rfl,hres,hb⟩
 ·have hN':N=q.num.natAbs*2 ^ up.toNat:=by rw[hN]; unfold f64N; rw[if_pos c]
  have hD':D=q.den:=by rw[hDe]; unfold f64D; rw[if_pos c]
  have hu:66 - (bn:Int)+bd=((up.toNat:Nat):Int):=by omega
  have hfin:=f64_fin hM2 (e:=(low:Int) - ((up.toNat:Nat):Int)) (by omega) (by rw[show(low:Int) - ((up.toNat:Nat):Int)=(low:Int) - up by omega]; exact hMB)
  rcases Int.lt_or_le ((Q:Int)+1) (up - 1074) with c2|c2
  ·have hlo:max ((Q:Int) - 53) (((up.toNat:Nat):Int) - 1074)=((up.toNat - 1074:Nat):Int):=by omega
   refine(F64_A1 q vx w hx hl h0 bn bd _ hbn hbd lbn lbd hu N D _ _ Q hN' hD' rfl rfl hQ hQ67 _ low hlo (by omega) (by omega) _ _ M rfl rfl hM hM2 _ hfin hy).mono ?_
   rintro e w' ⟨b,rfl,hb⟩
   exact⟨_,b,rfl,hres,hb⟩
  ·have hlo:max ((Q:Int) - 53) (((up.toNat:Nat):Int) - 1074)=(low:Int):=by omega
   refine(F64_A0 q vx w hx hl h0 bn bd _ hbn hbd lbn lbd hu N D _ _ Q hN' hD' rfl rfl hQ hQ67 low hlo hl2 hl1 _ _ M rfl rfl hM hM2 _ hfin hy).mono ?_
   rintro e w' ⟨b,rfl,hb⟩
   exact⟨_,b,rfl,hres,hb⟩
theorem near_exq{q:Rat}(h0:q≠0):∃ B,NearB (unitsQ q.num.natAbs q.den) B:=by
 have hn:0<q.num.natAbs:=by
  rcases Nat.eq_zero_or_pos q.num.natAbs with h|h
  ·exact absurd (Rat.num_eq_zero.1 (Int.natAbs_eq_zero.1 h)) h0
  ·exact h
 have hd:0<q.den:=Nat.pos_of_ne_zero q.den_nz
 obtain⟨bn,hbn⟩:=bits_ex q.num.natAbs
 obtain⟨bd,hbd⟩:=bits_ex q.den
 have pbn:=bits_pos hbn hn
 have pbd:=bits_pos hbd hd
 obtain⟨up,hup⟩:∃ up:Int,up=66 - (bn:Int)+bd:=⟨_,rfl⟩
 obtain⟨hD,q1,q2⟩:=f64_q hbn.1 (bits_low hbn hn) pbn hbd.1 (bits_low hbd hd) pbd hup
 obtain⟨N,hN⟩:∃ N,N=f64N q.num.natAbs up:=⟨_,rfl⟩
 obtain⟨D,hDe⟩:∃ D,D=f64D q.den up:=⟨_,rfl⟩
 obtain⟨Q,hQ⟩:=bits_ex (N / D)
 rw[←hN,←hDe] at q1 q2
 rw[←hDe] at hD
 have hqp:0<N / D:=Nat.lt_of_lt_of_le (by decide) q1
 have hQ67:=bits_67 q1 q2 hQ.1 (bits_low hQ hqp)
 obtain⟨low,hl1,hl2,hlow⟩:=f64_lows (up:=up) hQ67
 have hdm:=Nat.div_add_mod N D
 have hkm:=Nat.div_add_mod (N / D) (2 ^ low)
 obtain⟨B,hB,hm⟩:=f64_near (n:=q.num.natAbs) (d:=q.den) (q:=N / D) (r:=N % D) (k:=N / D / 2 ^ low) (rest:=N / D % 2 ^ low) (by rw[←hDe]; exact hD) hd (by rw[←hN,←hDe,Nat.mul_comm]; exact hdm.symm) (by rw[←hDe]; exact Nat.mod_lt _ hD) hQ67 hQ.1 (bits_low hQ hqp) (by rw[Nat.mul_comm]; exact hkm.symm) (Nat.mod_lt _ (Nat.two_pow_pos _)) hlow
 exact⟨B,hB⟩
theorem near_zero:NearB (unitsQ 0 1) 0:=by
 refine⟨0,0,⟨by decide,.inl rfl⟩,?_,?_,.inl ⟨rfl,.inl ?_⟩⟩<;>(unfold unitsQ; generalize ((2 ^ UU:Nat):Rat)=u; simp; grind)
theorem F64_z(vx:Value)(w:World)(hx:RatP 0 vx w NoA) :
  Calls Tryz.prog 36 #[vx] w fun e w'=>∃ x b,e=.returned (.tuple #[.float .f64 x,.bool b])∧F64 0 x∧Below w.heap.size w w':=by
 obtain⟨b,rfl⟩:=hx.shape
 have HX:=Lib.hid hx
 clear hx
 go_enter Tryz.func36,Tryz.ntmps36
 go_wp2_with fail
 refine(RSign_any 0 _ NoA w HX.out).mono ?_
 rintro e w' ⟨rfl,rfl⟩
 rw[show(0:Rat).num.sign=0 from rfl]
 go_wp2_with fail
 refine bodyPost_ret (v:=.tuple #[.float .f64 0,.bool true]) (by kernel_rfl) rfl ⟨0,true,rfl,⟨0,near_zero,rfl⟩,Below.refl _ _⟩
theorem f64_ex(q:Rat):∃ x,F64 q x:=by
 by_cases h0:q=0
 ·subst h0; exact⟨0,0,near_zero,rfl⟩
 ·obtain⟨B,hB⟩:=near_exq h0
  exact⟨_,B,hB,rfl⟩
theorem F64_any(q:Rat)(vx:Value)(A:Nat→Prop)(w:World)(hx:RatP q vx w A)(hl:RL q 2048) :
  Calls Tryz.prog 36 #[vx] w fun e w'=>∃ x b,e=.returned (.tuple #[.float .f64 x,.bool b])∧F64 q x∧Below w.heap.size w w':=by
 by_cases h0:q=0
 ·subst h0; exact F64_z vx w hx.noA
 ·exact F64_nz q vx w hx.noA hl h0
end Go.Proofs.YthklnbaddobieaaGreat
