/- Laws for the walk. -/
import Derived.Test.YthklnbaddobieaaGreatUab
import Ieee.Arith
import Derived.Laws.FloatArith
set_option linter.unusedVariables false
set_option maxHeartbeats 4000000
namespace Tr
theorem wv_drop_wat(l:List Nat)(k:Nat):wv (l.drop k)=wat l k+4294967296*wv (l.drop (k+1)):=by
 by_cases h:k<l.length
 ·rw[wv_drop h,wat_of h]
 ·rw[wat_out (by omega),List.drop_eq_nil_of_le (by omega),List.drop_eq_nil_of_le (by omega)]; rfl
theorem wv_take_drop(l:List Nat)(k:Nat)(hk:k≤l.length):wv l=wv (l.take k)+4294967296 ^ k*wv (l.drop k):=by
 conv=>lhs; rw[←List.take_append_drop k l]
 rw[wv_append]; simp[Nat.min_eq_left hk]
theorem wv_div{l:List Nat}(h:WOk l)(k:Nat)(hk:k≤l.length):wv l / 4294967296 ^ k=wv (l.drop k):=by
 rw[wv_take_drop l k hk]
 have h1:=wv_lt (wok_take h k)
 have h3:(l.take k).length=k:=by simp; omega
 rw[h3] at h1
 rw[Nat.add_mul_div_left _ _ (Nat.lt_of_le_of_lt (Nat.zero_le _) h1),Nat.div_eq_of_lt h1,Nat.zero_add]
theorem right_word{x y z s:Nat}(hs:s<32):(x+4294967296*(y+4294967296*z)) / 2 ^ s % 4294967296=(x+y*4294967296) / 2 ^ s % 4294967296:=by
 have e:(4294967296:Nat)*4294967296=2 ^ s*(2 ^ (32 - s)*4294967296):=by
  rw[←Nat.mul_assoc,←Nat.pow_add]
  have:s+(32 - s)=32:=by omega
  rw[this]
 have e2:x+4294967296*(y+4294967296*z)=(x+y*4294967296)+2 ^ s*(2 ^ (32 - s)*4294967296*z):=by
  rw[←Nat.mul_assoc (2 ^ s),←e,Nat.mul_add,←Nat.mul_assoc]; omega
 rw[e2,Nat.add_mul_div_left _ _ (Nat.two_pow_pos s)]
 have e3:2 ^ (32 - s)*4294967296*z=4294967296*(2 ^ (32 - s)*z):=by simp only[Nat.mul_assoc,Nat.mul_left_comm]
 rw[e3,Nat.add_mul_mod_self_left]
theorem right_step{l out:List Nat}{k s:Nat}(hl:WOk l)(hs:s<32)(hk:k<l.length)(ho:k<out.length)(h:wv (out.take k)=wv l / 2 ^ s % 4294967296 ^ k) :
  wv ((out.set k ((wat l k+wat l (k+1)*4294967296) / 2 ^ s % 4294967296)).take (k+1))=wv l / 2 ^ s % 4294967296 ^ (k+1):=by
 rw[wv_take_set ho,h,Nat.mod_pow_succ]
 congr 2
 rw[Nat.div_div_eq_div_mul,Nat.mul_comm (2 ^ s),←Nat.div_div_eq_div_mul,wv_div hl k (by omega),wv_drop_wat,wv_drop_wat,right_word hs]
theorem right_end{l out:List Nat}{n s:Nat}(hl:WOk l)(hn:l.length=n)(ho:out.length=n)(h:wv (out.take n)=wv l / 2 ^ s % 4294967296 ^ n):wv out=wv l / 2 ^ s:=by
 rw[List.take_of_length_le (by omega)] at h
 rw[h]
 have:=wv_lt hl
 rw[hn] at this
 exact Nat.mod_eq_of_lt (Nat.lt_of_le_of_lt (Nat.div_le_self _ _) this)
theorem right_all{l:List Nat}{q N s:Nat}(hl:WOk l)(hq:N / 32=q)(hs:N % 32=s)(hk:q≤l.length):wv (l.drop q) / 2 ^ s=wv l / 2 ^ N:=by
 rw[←wv_div hl q hk,Nat.div_div_eq_div_mul]
 congr 1
 rw[show(4294967296:Nat)=2 ^ 32 by decide,←Nat.pow_mul,←Nat.pow_add]; congr 1; omega
theorem right_none{l:List Nat}{q N:Nat}(hl:WOk l)(hq:N / 32=q)(hk:l.length≤q):wv l / 2 ^ N=0:=by
 apply Nat.div_eq_of_lt
 have:=wv_lt hl
 rw[show(4294967296:Nat)=2 ^ 32 by decide,←Nat.pow_mul] at this
 exact Nat.lt_of_lt_of_le this (Nat.pow_le_pow_right (by decide) (by omega))
end Tr
namespace Go.Proofs.YthklnbaddobieaaGreat
open Go.RowKit Tr
theorem or_high{x y:Nat}(hx:x<4294967296)(hy:y<4294967296):bits BinOp.or .u64 (x:Int) ((y:Int)*4294967296)=((x+y*4294967296:Nat):Int):=by
 have e:(y:Int)*4294967296=((y*4294967296:Nat):Int):=by simp
 rw[e,bits_or_u64_nat _ _ (by omega) (by omega),Nat.or_comm,Nat.mul_comm,show(4294967296:Nat)=2 ^ 32 by decide,←Nat.two_pow_add_eq_or_of_lt (by omega),Nat.add_comm]
theorem right_walk(la:List Nat)(n N q s:Nat)(hna:la.length=n)(oa:WOk la)(hq:N / 32=q)(hs:N % 32=s)(hqn:q<n)(b off:Nat)(ca:Nat)(hca:n≤ca)(w:World)(hbs:b<w.heap.size)(ha:∀ j,j<n→w.cell? ⟨b,off+j,none⟩=some (.int .u32 (la[j]?.getD 0:Nat)))(hn:n<1099511627776)(hN:N<1099511627776) :
  Calls Tryz.prog 153 #[.slice (some ⟨b,off,none⟩) n ca,.int .i64 N] w fun e w'=>∃ v,e=.returned v∧WSl w' v (words (wv la / 2 ^ N))∧Below w.heap.size w w':=by
 have H:=Lib.hid hna
 have HA:=Lib.hid ha
 obtain⟨m,hm⟩:∃ m,n - q=m:=⟨_,rfl⟩
 have hmk:=run_mk m (by omega)
 have e1:(N:Int).tdiv 32=(q:Int):=by rw[Int.tdiv_eq_ediv_of_nonneg (by omega)]; omega
 have e2:(N:Int).tmod 32=(s:Int):=by rw[Int.tmod_eq_emod_of_nonneg (by omega)]; omega
 obtain⟨l,hl⟩:∃ l:List Nat,l=la.drop q:=⟨_,rfl⟩
 have ol:WOk l:=by rw[hl]; exact wok_drop oa q
 have HL:Hid (l.length=m):=Lib.hid (by rw[hl]; simp; omega)
 have HC:Hid (∀ j,j<m→w.cell? ⟨b,off+q+j,none⟩=some (.int .u32 (l[j]?.getD 0:Nat))):=Lib.hid (fun j hj=>by
  rw[hl,List.getElem?_drop,Nat.add_assoc]; exact ha (q+j) (by omega))
 have HF:Hid (wv l / 2 ^ s=wv la / 2 ^ N):=Lib.hid (by rw[hl]; exact right_all oa hq hs (by omega))
 clear ha hna hl HA
 go_enter Tryz.func153,Tryz.ntmps153
 go_wp2_with fail
 go_loopw [6,7,8,23] (fun _ _ _ i wr=>∃(k:Nat) (out:List Nat),k≤m∧i=.int .i64 k∧Hid (out.length=m)∧WOk out∧Hid (wv (out.take k)=wv l / 2 ^ s % 4294967296 ^ k)∧Blk wr w.heap.size out∧Below w.heap.size w wr)
  (fun _ _ _ i _=>m - (intOf i).toNat)
 case atStart =>
  exact⟨0,List.replicate m 0,Nat.zero_le _,rfl,Lib.hid (by simp),wok_replicate _,Lib.hid (by simp[wv,Nat.mod_one]),Blk.new _ _,br.alloc (Nat.le_refl _) _⟩
 case round =>
  obtain⟨k,out,hk,rfl,hlo,oo,hinv,hblk,hB⟩:=hrel
  have hs32:s<32:=by omega
  by_cases hlt2:k<m
  ·have c0:=(hB.cell (p:=⟨b,off+q+k,none⟩) hbs).trans (HC.out k hlt2)
   have c1:=hblk.cell (i:=k) (by have:=hlo.out; omega)
   have c2:=hblk.frozen k
   have bx:l[k]?.getD 0<4294967296:=wat_lt ol k
   have hst:=right_step (s:=s) (k:=k) ol hs32 (by have:=HL.out; omega) (by have:=hlo.out; omega) hinv.out
   by_cases hkm:k+1<m
   ·have c3:=(hB.cell (p:=⟨b,off+q+(k+1),none⟩) hbs).trans (HC.out (k+1) hkm)
    have by_:l[k+1]?.getD 0<4294967296:=wat_lt ol (k+1)
    obtain⟨t,ht⟩:∃ t:Nat,t=wat l k+wat l (k+1)*4294967296:=⟨_,rfl⟩
    have hor:=or_high bx by_
    rw[←ht] at hst
    have ht':l[k]?.getD 0+l[k+1]?.getD 0*4294967296=t:=ht.symm
    rw[ht'] at hor
    have ht2:t<18446744073709551616:=by omega
    have HE:Hid ((t:Int) / 2 ^ s % 4294967296=((t / 2 ^ s % 4294967296:Nat):Int)):=Lib.hid (by simp)
    have HS:=Lib.hid hst
    clear ht ht' hst
    go_wp2
    go_roundw
    case rel =>
     rw[HE.out]
     exact⟨k+1,_,by omega,by go_num,Lib.hid (by have:=hlo.out; simpa using this),wok_set oo _ _ (Nat.mod_lt _ (by decide)),HS,hblk.set _ _,hB.setCell (p:=⟨w.heap.size,k,none⟩) (Nat.le_refl _) _⟩
    case measure=>simp[intOf]; omega
   ·have h0:wat l (k+1)=0:=wat_out (by have:=HL.out; omega)
    obtain⟨t,ht⟩:∃ t:Nat,t=l[k]?.getD 0:=⟨_,rfl⟩
    have hst2:wv ((out.set k (t / 2 ^ s % 4294967296)).take (k+1))=wv l / 2 ^ s % 4294967296 ^ (k+1):=by
     rw[h0] at hst; rw[ht]; simpa[wat] using hst
    rw[←ht] at c0 bx
    have HE:Hid ((t:Int) / 2 ^ s % 4294967296=((t / 2 ^ s % 4294967296:Nat):Int)):=Lib.hid (by simp)
    have HS:=Lib.hid hst2
    clear ht hst hst2 h0
    go_wp2
    go_roundw
    case rel =>
     rw[HE.out]
     exact⟨k+1,_,by omega,by go_num,Lib.hid (by have:=hlo.out; simpa using this),wok_set oo _ _ (Nat.mod_lt _ (by decide)),HS,hblk.set _ _,hB.setCell (p:=⟨w.heap.size,k,none⟩) (Nat.le_refl _) _⟩
    case measure=>simp[intOf]; omega
  ·obtain rfl:m=k:=by omega
   have hfin:=Lib.hid (right_end ol HL.out hlo.out hinv.out)
   have hW:=hblk.wsl (k:=m) (cap:=m) (by have:=hlo.out; omega) (Nat.le_refl _)
   rw[List.take_of_length_le (by have:=hlo.out; omega)] at hW
   go_wp2_with (go_at_call 201; refine(cut_any _ _ _ oo hW (by rw[hlo.out]; omega)).mono ?_; rintro e w' ⟨v,rfl,hv,rfl⟩)
   go_ret
   exact⟨v,rfl,by rw[hfin.out,HF.out] at hv; exact hv,hB⟩
theorem right_any(la:List Nat)(N:Nat)(va:Value)(w:World)(oa:WOk la)(ha:WSl w va la)(hn:la.length<1099511627776)(hN:N<1099511627776) :
  Calls Tryz.prog 153 #[va,.int .i64 N] w fun e w'=>∃ v,e=.returned v∧WSl w' v (words (wv la / 2 ^ N))∧Below w.heap.size w w':=by
 obtain⟨pa,ca,rfl,hca,ha⟩:=ha
 by_cases h:N / 32<la.length
 ·obtain⟨b,off,rfl,h1,h2⟩:=ha (by intro h0; rw[h0] at h; simp at h)
  exact right_walk la _ N _ _ rfl oa rfl rfl h b off ca hca w h1 h2 hn hN
 ·have hz:=right_none oa rfl (Nat.le_of_not_lt h)
  obtain⟨q,hq⟩:∃ q,N / 32=q:=⟨_,rfl⟩
  obtain⟨n,hn'⟩:∃ n,la.length=n:=⟨_,rfl⟩
  rw[hz,words_zero,hn']
  rw[hn',hq] at h
  have e1:(N:Int).tdiv 32=(q:Int):=by rw[Int.tdiv_eq_ediv_of_nonneg (by omega)]; omega
  have hle:(n:Int)≤(q:Int):=by omega
  clear ha hca hz
  go_enter Tryz.func153,Tryz.ntmps153
  go_wp2
  go_ret
  exact⟨_,rfl,WSl.nil w,Below.refl _ _⟩
end Go.Proofs.YthklnbaddobieaaGreat
namespace Go.Proofs.YthklnbaddobieaaGreat
open Go.RowKit Tr
theorem below_drewN{B:Nat}{a w:World}(h:Below B a w)(n:Nat):Below B a (w.drewN n):=⟨h.os,h.tape,h.output,h.size,h.block⟩
set_option maxRecDepth 100000 in
theorem sproduct_walk(la lb:List Nat)(n m:Nat)(hna:la.length=n)(hnb:lb.length=m)(oa:WOk la)(ob:WOk lb)(pa pb:Option Addr)(ca cb:Nat)(w:World)(ha:Row w pa la)(hb:Row w pb lb)(hn:n<549755813888)(hm:m<549755813888) :
  Calls Tryz.prog 172 #[.slice pa n ca,.slice pb m cb] w fun e w'=>∃ v,e=.returned v∧WSl w' v (words (wv la*wv lb))∧Below w.heap.size w w':=by
 have H:=Lib.hid (And.intro hna hnb)
 have HA:=Lib.hid ha
 have HB:=Lib.hid hb
 have hmk:=run_mk (n+m) (by omega)
 have en:((n+m:Nat):Int)=(n:Int)+m:=by omega
 rw[en] at hmk
 clear ha hb hna hnb en
 go_enter Tryz.func172,Tryz.ntmps172
 go_wp2
 go_loopw [6,7,8,9] (fun i _ _ _ wr=>∃(k:Nat) (out:List Nat),k≤n∧i=.int .i64 k∧Hid (out.length=n+m)∧WOk out∧Hid (wv out=wv (la.take k)*wv lb)∧Blk wr w.heap.size out∧Below w.heap.size w wr)
  (fun i _ _ _ _=>n - (intOf i).toNat)
 case atStart =>
  exact⟨0,List.replicate (n+m) 0,Nat.zero_le _,rfl,Lib.hid (by simp),wok_replicate _,Lib.hid (by rw[wv_replicate]; simp[wv]),Blk.new _ _,br.alloc (Nat.le_refl _) _⟩
 case round =>
  obtain⟨k,out,hk,rfl,hlo,oo,hinv,hblk,hB⟩:=hrel
  by_cases hlt2:k<n
  ·obtain⟨b,off,rfl,hbs,hcl⟩:=HA.out (by intro h; have:=H.out.1; rw[h] at this; simp at this; omega)
   have c0:=(hB.cell (p:=⟨b,off+k,none⟩) hbs).trans (hcl k (by have:=H.out.1; omega))
   have bx:la[k]?.getD 0<4294967296:=wat_lt oa k
   have hroom:=Lib.hid (product_room (i:=k) (m:=m) oa ob H.out.2 (by have:=H.out.1; omega) hinv.out)
   clear hcl
   obtain⟨wo,rfl⟩:∃ wo:World,wo=wr:=⟨_,rfl⟩
   go_wp2
   go_loopw [7,9] (fun c j wr=>∃(k2 cr:Nat) (out2:List Nat),k2≤m∧j=.int .i64 k2∧c=.int .u64 cr∧cr<4294967296∧Hid (out2.length=n+m)∧WOk out2∧Hid (wat out2 (k+m)=0)∧Hid (wv out2+4294967296 ^ (k+k2)*cr=wv (la.take k)*wv lb+4294967296 ^ k*(wat la k*wv (lb.take k2)))∧Blk wr w.heap.size out2∧Below w.heap.size w wr)
    (fun _ j _=>m - (intOf j).toNat)
   case atStart =>
    exact⟨0,0,out,Nat.zero_le _,rfl,rfl,by omega,hlo,oo,hroom,Lib.hid (by simpa[wv] using hinv.out),hblk,hB⟩
   case round =>
    obtain⟨k2,cr,out2,hk2,rfl,rfl,hcr,hlo2,oo2,hz2,hinv2,hblk2,hB2⟩:=hrel
    by_cases hlt3:k2<m
    ·obtain⟨b2,off2,rfl,hbs2,hcl2⟩:=HB.out (by intro h; have:=H.out.2; rw[h] at this; simp at this; omega)
     have c3:=(hB2.cell (p:=⟨b2,off2+k2,none⟩) hbs2).trans (hcl2 k2 (by have:=H.out.2; omega))
     have by_:lb[k2]?.getD 0<4294967296:=wat_lt ob k2
     have bo:out2[k+k2]?.getD 0<4294967296:=wat_lt oo2 _
     have c1:=hblk2.cell (i:=k+k2) (by have:=hlo2.out; omega)
     have c2:=hblk2.frozen (k+k2)
     have hxy:=word_mul bx by_
     have e1:((cr:Int)+(la[k]?.getD 0:Nat)*(lb[k2]?.getD 0:Nat)+(out2[k+k2]?.getD 0:Nat)) % 4294967296=((cr+(wat la k*wat lb k2+wat out2 (k+k2))) % 4294967296:Nat):=by simp[wat,Int.add_assoc]
     have e2:((cr:Int)+(la[k]?.getD 0:Nat)*(lb[k2]?.getD 0:Nat)+(out2[k+k2]?.getD 0:Nat)) / 4294967296=((cr+(wat la k*wat lb k2+wat out2 (k+k2))) / 4294967296:Nat):=by simp[wat,Int.add_assoc]
     have hst:=Lib.hid (product_step (x:=wat la k) (by have:=hlo2.out; omega) hinv2.out)
     have hcr':(cr+(wat la k*wat lb k2+wat out2 (k+k2))) / 4294967296<4294967296:=by unfold wat; omega
     have E:=Lib.hid (And.intro e1 e2)
     clear hcl2 e1 e2
     go_wp2
     go_quiet (fail)
     go_wp2
     go_roundw
     case rel =>
      rw[E.out.1,E.out.2]
      exact⟨k2+1,_,_,by omega,by go_num,rfl,hcr',Lib.hid (by have:=hlo2.out; simpa using this),wok_set oo2 _ _ (Nat.mod_lt _ (by decide)),Lib.hid (by rw[wat_set_ne (by omega)]; exact hz2.out),hst,hblk2.set _ _,(below_drewN hB2 _).setCell (p:=⟨w.heap.size,k+k2,none⟩) (Nat.le_refl _) _⟩
     case measure=>simp[intOf]; omega
    ·obtain rfl:m=k2:=by omega
     have hfin:=Lib.hid (product_row (out:=out2) (la:=la) (lb:=lb) (i:=k) (m:=m) (by have:=hlo2.out; omega) H.out.2 hz2.out hinv2.out)
     have c1:=hblk2.cell (i:=k+m) (by have:=hlo2.out; omega)
     have c2:=hblk2.frozen (k+m)
     go_wp2
     go_roundw
     case rel =>
      exact⟨k+1,_,by omega,by go_num,Lib.hid (by have:=hlo2.out; simpa using this),wok_set oo2 _ _ hcr,hfin,hblk2.set _ _,hB2.setCell (p:=⟨w.heap.size,k+m,none⟩) (Nat.le_refl _) _⟩
     case measure=>simp[intOf]; omega
  ·obtain rfl:n=k:=by omega
   have hfin:Hid (wv out=wv la*wv lb):=Lib.hid (by have:=hinv.out; rwa[List.take_of_length_le (by have:=H.out.1; omega)] at this)
   have hcut:=Lib.hid (scut_any out _ wr oo (hblk.wsl (k:=n+m) (cap:=n+m) (by have:=hlo.out; omega) (Nat.le_refl _) |> fun x=>by rwa[List.take_of_length_le (by have:=hlo.out; omega)] at x) (by have:=hlo.out; omega))
   go_wp2_with (refine hcut.out.mono ?_; rintro e w' ⟨v,rfl,hv,rfl⟩)
   go_ret
   exact⟨v,rfl,by rw[←hfin.out]; exact hv,hB⟩
theorem sproduct_any(la lb:List Nat)(va vb:Value)(w:World)(oa:WOk la)(ob:WOk lb)(ha:WSl w va la)(hb:WSl w vb lb)(hn:la.length<549755813888)(hm:lb.length<549755813888) :
  Calls Tryz.prog 172 #[va,vb] w fun e w'=>∃ v,e=.returned v∧WSl w' v (words (wv la*wv lb))∧Below w.heap.size w w':=by
 obtain⟨pa,ca,rfl,hca,ha⟩:=ha
 obtain⟨pb,cb,rfl,hcb,hb⟩:=hb
 exact sproduct_walk la lb _ _ rfl rfl oa ob pa pb ca cb w ha hb hn hm
set_option maxRecDepth 100000 in
theorem sup_walk(la:List Nat)(n N q s:Nat)(hna:la.length=n)(hn0:0<n)(oa:WOk la)(hq:N / 32=q)(hs:N % 32=s)(pa:Option Addr)(ca:Nat)(w:World)(ha:Row w pa la)(hn:n<549755813888)(hN:N<1099511627776) :
  Calls Tryz.prog 174 #[.slice pa n ca,.int .i64 N] w fun e w'=>∃ v,e=.returned v∧WSl w' v (words (wv la*2 ^ N))∧Below w.heap.size w w':=by
 have H:=Lib.hid hna
 have HA:=Lib.hid ha
 have hmk:=run_mk2 q (q+n+1) (by omega) (by omega)
 have en:((q+n+1:Nat):Int)=(q:Int)+n+1:=by omega
 rw[en] at hmk
 have e1:(N:Int).tdiv 32=(q:Int):=by rw[Int.tdiv_eq_ediv_of_nonneg (by omega)]; omega
 have e0:((n:Int) == 0)=false:=by simp; omega
 clear ha hna en hn0
 go_enter Tryz.func174,Tryz.ntmps174
 go_wp2_with fail
 go_loopw [5,6,7] (fun v c i wr=>∃(k cr:Nat) (l:List Nat),k≤n∧i=.int .i64 k∧c=.int .u64 cr∧cr<2 ^ s∧v=.slice (some ⟨w.heap.size,0,none⟩) (q+k) (q+n+1)∧WOk l∧Hid (wv l+4294967296 ^ (q+k)*cr=4294967296 ^ q*(wv (la.take k)*2 ^ s))∧Own wr w.heap.size (q+k) l (q+n+1)∧Below w.heap.size w wr)
  (fun _ _ i _=>n - (intOf i).toNat)
 case atStart =>
  exact⟨0,0,List.replicate q 0,Nat.zero_le _,rfl,rfl,Nat.two_pow_pos s,rfl,wok_replicate _,Lib.hid (by rw[wv_replicate]; simp[wv]),Own.new _ _ _ (by omega) (by omega),br.alloc (Nat.le_refl _) _⟩
 case round =>
  obtain⟨k,cr,l,hk,rfl,rfl,hcr,rfl,ol,hinv,hown,hB⟩:=hrel
  by_cases hlt2:k<n
  ·obtain⟨b,off,rfl,hbs,hcl⟩:=HA.out (by intro h; have:=H.out; rw[h] at this; simp at this; omega)
   have c0:=(hB.cell (p:=⟨b,off+k,none⟩) hbs).trans (hcl k (by have:=H.out; omega))
   have bx:la[k]?.getD 0<4294967296:=wat_lt oa k
   have e2:(N:Int).tmod 32=(s:Int):=by rw[Int.tmod_eq_emod_of_nonneg (by omega)]; omega
   have hs32:s<32:=by omega
   have hp:(2:Nat) ^ s≤2 ^ 31:=Nat.pow_le_pow_right (by decide) (by omega)
   obtain⟨y,hy⟩:∃ y:Nat,y=la[k]?.getD 0*2 ^ s:=⟨_,rfl⟩
   obtain⟨t,ht⟩:∃ t:Nat,t=cr+la[k]?.getD 0*2 ^ s:=⟨_,rfl⟩
   have ht1:t<4294967296*2 ^ s:=by
    have:(la[k]?.getD 0+1)*2 ^ s≤4294967296*2 ^ s:=Nat.mul_le_mul_right _ bx
    rw[Nat.add_mul] at this
    omega
   have ht2:t<18446744073709551616:=by omega
   have hor:IntKind.u64.wrap ((la[k]?.getD 0:Nat)*2 ^ s:Int)=(y:Int):=by
    have e:((la[k]?.getD 0:Nat)*2 ^ s:Int)=(y:Int):=by rw[hy]; simp
    rw[e]; show(y:Int) % 18446744073709551616=_; omega
   have hyt:(cr:Int)+(y:Int)=(t:Int):=by omega
   have hcr2:t / 4294967296<2 ^ s:=Nat.div_lt_of_lt_mul ht1
   have hst:=Lib.hid (left_step (la:=la) hown.length ht hinv.out)
   obtain⟨i0,hi,hz0,hz1,hz2⟩:=info_parts info_u32
   have HE:Hid ((t:Int) % 4294967296=((t % 4294967296:Nat):Int)):=Lib.hid (by omega)
   clear hcl ht ht1 hy
   go_wp2_with (first|(at_builtin; rw[HE.out]; refine wpList_append_fits _ rfl (.tmp 36) (.tmp 40) 129 rfl w.heap.size 192 i0 1 Tryz.underlying129 hi hz1 w.heap.size (q+k) (q+n+1) _ rfl (hown.alloc _) ⟨wr.heap.size,0,none⟩ 1 1 [.int .u32 ((t % 4294967296:Nat):Int)] rfl rfl (cell_one_new _ _ _) (ints_oneCell .u32 [((t % 4294967296:Nat):Int)]) (by omega) ?_; intro w4 hown4 hgrow4))
   have hB4:Below w.heap.size w w4:=(hB.alloc hB.size _).grown hgrow4 (by have:=hB.size; simp; omega) (fun k e=>by cases e; exact Nat.le_refl _)
   go_roundw
   case rel=>exact⟨k+1,_,l++[t % 4294967296],by omega,by go_num,rfl,hcr2,rfl,by rw[wok_append]; exact⟨ol,by rw[wok_cons]; exact⟨Nat.mod_lt _ (by decide),wok_nil⟩⟩,hst,Own.more hown4,hB4⟩
   case measure=>simp[intOf]; omega
  ·obtain rfl:n=k:=by omega
   have hp:(2:Nat) ^ s≤2 ^ 31:=Nat.pow_le_pow_right (by decide) (by omega)
   have hcr2:cr<4294967296:=by omega
   have hfin:=Lib.hid (left_end hown.length H.out hq hs hinv.out)
   have ol2:WOk (l++[cr]):=by rw[wok_append]; exact⟨ol,by rw[wok_cons]; exact⟨hcr2,wok_nil⟩⟩
   obtain⟨i0,hi,hz0,hz1,hz2⟩:=info_parts info_u32
   go_wp2_with (first
    | (at_builtin; refine wpList_append_fits _ rfl (.tmp 44) (.tmp 47) 129 rfl w.heap.size 192 i0 1 Tryz.underlying129 hi hz1 w.heap.size (q+n) (q+n+1) _ rfl (hown.alloc _) ⟨wr.heap.size,0,none⟩ 1 1 [.int .u32 (cr:Int)] rfl rfl (cell_one_new _ _ _) (ints_oneCell .u32 [(cr:Int)]) (by omega) ?_; intro w4 hown4 hgrow4; have hW:=(Own.more hown4).wsl)
    | (go_at_call 200; refine(scut_any _ _ _ ol2 hW (by rw[List.length_append,hown.length]; simp; omega)).mono ?_; rintro e w' ⟨v,rfl,hv,rfl⟩))
   go_ret
   have hB4:Below w.heap.size w w4:=(hB.alloc hB.size _).grown hgrow4 (by have:=hB.size; simp; omega) (fun k e=>by cases e; exact Nat.le_refl _)
   exact⟨v,rfl,by rw[hfin.out] at hv; exact hv,hB4⟩
theorem sup_any(la:List Nat)(N:Nat)(va:Value)(w:World)(oa:WOk la)(ha:WSl w va la)(hn:la.length<549755813888)(hN:N<1099511627776) :
  Calls Tryz.prog 174 #[va,.int .i64 N] w fun e w'=>∃ v,e=.returned v∧WSl w' v (words (wv la*2 ^ N))∧Below w.heap.size w w':=by
 obtain⟨pa,ca,rfl,hca,ha⟩:=ha
 rcases Nat.eq_zero_or_pos la.length with h0|h0
 ·have hl:=List.eq_nil_of_length_eq_zero h0
  subst hl
  have hz:words (wv []*2 ^ N)=[]:=by rw[wv_nil,Nat.zero_mul,words_zero]
  rw[hz]
  simp only[List.length_nil]
  go_enter Tryz.func174,Tryz.ntmps174
  go_wp2
  go_ret
  exact⟨_,rfl,WSl.nil _,Below.refl _ _⟩
 ·exact sup_walk la _ N _ _ rfl h0 oa rfl rfl pa ca w ha hn hN
end Go.Proofs.YthklnbaddobieaaGreat
namespace Tr
open Ieee
def DV(d:Datum)(v:Int):Prop:=∃ s m e,d=.number s m e∧-1074≤e∧signed s m (e+1074).toNat=v
def UU:Nat:=1074
theorem UU_eq:UU=1074:=rfl
def Exu(x:Nat)(v:Int):Prop:=DV (double.read x) v
def Rp(n:Nat):Prop:=∃ k t,n=k*2 ^ t∧k<2 ^ 53∧t≤2045
theorem natAbs_two_pow(k:Nat):((2:Int) ^ k).natAbs=2 ^ k:=by rw[Int.natAbs_pow]; rfl
theorem signed_eq(s:Bool)(m u:Nat):signed s m u=if s then -((m*2 ^ u:Nat):Int) else((m*2 ^ u:Nat):Int):=by
 unfold signed; simp[Nat.shiftLeft_eq]
theorem signed_natAbs(s:Bool)(m u:Nat):(signed s m u).natAbs=m*2 ^ u:=by
 rw[signed_eq]; cases s<;>simp[Int.natAbs_mul,Int.natAbs_pow]
theorem signed_scale(s:Bool)(m u v:Nat):signed s m u*(2:Int) ^ v=signed s m (u+v):=by
 rw[signed_eq,signed_eq,Nat.pow_add,←Nat.mul_assoc]
 cases s<;>simp[Int.natCast_mul,Int.natCast_pow,Int.neg_mul]
theorem sw:double.signWeight=9223372036854775808:=rfl
theorem bn:double.binade=4503599627370496:=rfl
theorem ir:double.infRung=9218868437227405312:=rfl
theorem lp:double.leastPlace=-1074:=rfl
theorem read_word(s:Bool)(L kept:Nat)(hk:kept<9007199254740992)(hL:L≤2045)(h:L=0∨4503599627370496≤kept) :
  ∃ m e,double.read (double.word s (L*4503599627370496+kept))=.number s m e∧-1074≤e∧m*2 ^ (e+1074).toNat=kept*2 ^ L:=by
 have hr:L*4503599627370496+kept<9218868437227405312:=by omega
 have h1:double.word s (L*4503599627370496+kept) % 9223372036854775808=L*4503599627370496+kept:=by
  unfold Format.word; rw[sw]; cases s<;>simp<;>omega
 have h2:(double.word s (L*4503599627370496+kept) / 9223372036854775808 % 2 == 1)=s:=by
  unfold Format.word; rw[sw]
  cases s
  ·simp; omega
  ·simp; omega
 unfold Format.read
 simp only[sw,bn,ir,lp,h1,h2]
 by_cases hb:L*4503599627370496+kept<4503599627370496
 ·rw[if_pos hb]
  have hL0:L=0:=by omega
  subst hL0
  exact⟨_,_,rfl,by omega,by simp⟩
 ·rw[if_neg hb,if_pos hr]
  refine⟨_,_,rfl,by omega,?_⟩
  rcases h with h0|h0
  ·subst h0
   have e1:(0*4503599627370496+kept) / 4503599627370496=1:=by omega
   have e2:4503599627370496+(0*4503599627370496+kept) % 4503599627370496=kept:=by omega
   rw[e1,e2]; simp
  ·have e1:(L*4503599627370496+kept) / 4503599627370496=L+1:=by omega
   have e2:4503599627370496+(L*4503599627370496+kept) % 4503599627370496=kept:=by omega
   rw[e1,e2]
   have:(-1074+((L+1 - 1:Nat):Int)+1074).toNat=L:=by omega
   rw[this]
theorem cut_exact(neg:Bool)(kept drop:Nat)(hk:0<kept):Toward.even.cut neg (kept*2 ^ drop) drop=kept:=by
 have hp:0<2 ^ drop:=Nat.two_pow_pos _
 have hne:kept*2 ^ drop≠0:=Nat.ne_of_gt (Nat.mul_pos hk hp)
 have hl:drop≤(kept*2 ^ drop).log2:=by
  rw[Nat.le_log2 hne]
  exact Nat.le_mul_of_pos_left _ hk
 unfold Toward.cut
 simp only[Nat.min_eq_left (show drop≤(kept*2 ^ drop).log2+2 by omega),Nat.one_shiftLeft,Nat.mul_div_cancel _ hp,Nat.mul_mod_left]
 have h1:(2 ^ drop == 2*0)=false:=by
  rw[beq_eq_false_iff_ne]; omega
 have h2:decide (2 ^ drop<2*0)=false:=by simp
 rw[h1,h2]; rfl
theorem nearest_exact(s:Bool)(mag:Nat)(place:Int)(N:Nat)(hm:0<mag)
  (hN:mag*2 ^ (place+1074).toNat=N*2 ^ (-1074 - place).toNat) (hR:Rp N) :
  ∃ m e,double.read (double.nearest s mag place)=.number s m e∧-1074≤e∧m*2 ^ (e+1074).toNat=N:=by
 obtain⟨k,t,hNk,hk,ht⟩:=hR
 have hNpos:0<N:=by
  rcases Nat.eq_zero_or_pos N with h|h
  ·subst h
   have:=Nat.mul_pos hm (Nat.two_pow_pos (place+1074).toNat)
   omega
  ·exact h
 -- the logarithms
 have hl1:2 ^ mag.log2≤mag:=Nat.log2_self_le (by omega)
 have hl2:mag<2 ^ (mag.log2+1):=Nat.lt_log2_self
 have hg1:2 ^ N.log2≤N:=Nat.log2_self_le (by omega)
 have hg2:N<2 ^ (N.log2+1):=Nat.lt_log2_self
 have hlog:(N.log2:Int)=place+mag.log2+1074:=by
  have a1:2 ^ (mag.log2+(place+1074).toNat)<2 ^ (N.log2+1+(-1074 - place).toNat):=by
   rw[Nat.pow_add,Nat.pow_add]
   calc 2 ^ mag.log2*2 ^ (place+1074).toNat≤mag*2 ^ (place+1074).toNat:=Nat.mul_le_mul_right _ hl1
    _=N*2 ^ (-1074 - place).toNat:=hN
    _<_:=Nat.mul_lt_mul_of_pos_right hg2 (Nat.two_pow_pos _)
  have a2:2 ^ (N.log2+(-1074 - place).toNat)<2 ^ (mag.log2+1+(place+1074).toNat):=by
   rw[Nat.pow_add,Nat.pow_add]
   calc 2 ^ N.log2*2 ^ (-1074 - place).toNat≤N*2 ^ (-1074 - place).toNat:=Nat.mul_le_mul_right _ hg1
    _=mag*2 ^ (place+1074).toNat:=hN.symm
    _<_:=Nat.mul_lt_mul_of_pos_right hl2 (Nat.two_pow_pos _)
  have b1:=(Nat.pow_lt_pow_iff_right (by decide:1<2)).1 a1
  have b2:=(Nat.pow_lt_pow_iff_right (by decide:1<2)).1 a2
  omega
 -- the place of the last digit
 obtain⟨L,hL⟩:∃ L:Nat,L=N.log2 - 52:=⟨_,rfl⟩
 have hlast:max (place+mag.log2 - double.fractionBits) double.leastPlace=(L:Int) - 1074:=by
  rw[lp]
  show max (place+(mag.log2:Int) - ((52:Nat):Int)) (-1074)=_
  omega
 have htg:N.log2<53+t:=by
  have:2 ^ N.log2<2 ^ (53+t):=by
   calc 2 ^ N.log2≤N:=hg1
    _=k*2 ^ t:=hNk
    _<2 ^ 53*2 ^ t:=Nat.mul_lt_mul_of_pos_right hk (Nat.two_pow_pos _)
    _=2 ^ (53+t):=(Nat.pow_add _ _ _).symm
  exact(Nat.pow_lt_pow_iff_right (by decide:1<2)).1 this
 have hLt:L≤t:=by omega
 have hL45:L≤2045:=by omega
 obtain⟨kept,hkept⟩:∃ kept,N=kept*2 ^ L:=⟨k*2 ^ (t - L),by rw[hNk,Nat.mul_assoc,←Nat.pow_add]; congr 2; omega⟩
 have hkpos:0<kept:=by
  rcases Nat.eq_zero_or_pos kept with h|h
  ·subst h; simp at hkept; omega
  ·exact h
 have hk53:kept<9007199254740992:=by
  have:kept*2 ^ L<2 ^ 53*2 ^ L:=by
   rw[←hkept,←Nat.pow_add]
   exact Nat.lt_of_lt_of_le hg2 (Nat.pow_le_pow_right (by decide) (by omega))
  exact Nat.lt_of_mul_lt_mul_right this
 have hk52:L=0∨4503599627370496≤kept:=by
  by_cases h0:L=0
  ·exact .inl h0
  ·right
   have:2 ^ 52*2 ^ L≤kept*2 ^ L:=by
    rw[←hkept,←Nat.pow_add]
    exact Nat.le_trans (Nat.pow_le_pow_right (by decide) (by omega)) hg1
   exact Nat.le_of_mul_le_mul_right this (Nat.two_pow_pos _)
 have hcut:Toward.even.cut s (mag <<< (place - ((L:Int) - 1074)).toNat) (((L:Int) - 1074) - place).toNat=kept:=by
  by_cases hp:(L:Int) - 1074≤place
  ·have e0:(((L:Int) - 1074) - place).toNat=0:=by omega
   have e1:mag <<< (place - ((L:Int) - 1074)).toNat=kept:=by
    rw[Nat.shiftLeft_eq]
    have e2:(-1074 - place).toNat=0:=by omega
    have e3:(place+1074).toNat=(place - ((L:Int) - 1074)).toNat+L:=by omega
    rw[e2,e3,hkept,Nat.pow_add,←Nat.mul_assoc] at hN
    simp only[Nat.pow_zero,Nat.mul_one] at hN
    exact Nat.eq_of_mul_eq_mul_right (Nat.two_pow_pos _) hN
   rw[e0,e1]
   have:=cut_exact s kept 0 hkpos
   simpa using this
  ·have e1:(place - ((L:Int) - 1074)).toNat=0:=by omega
   obtain⟨d,hd⟩:∃ d:Nat,d=(((L:Int) - 1074) - place).toNat:=⟨_,rfl⟩
   have e2:mag=kept*2 ^ d:=by
    have:mag*2 ^ (place+1074).toNat=kept*2 ^ d*2 ^ (place+1074).toNat:=by
     rw[hN,hkept,Nat.mul_assoc,Nat.mul_assoc,←Nat.pow_add,←Nat.pow_add]
     congr 2; omega
    exact Nat.eq_of_mul_eq_mul_right (Nat.two_pow_pos _) this
   rw[e1,←hd,Nat.shiftLeft_zero,e2]
   exact cut_exact s kept d hkpos
 have hw:double.nearest s mag place=double.word s (L*4503599627370496+kept):=by
  unfold Format.nearest
  rw[if_neg (by omega)]
  dsimp only
  rw[hlast,hcut,lp,bn,ir]
  have:((L:Int) - 1074 - -1074).toNat=L:=by omega
  rw[this,Nat.min_eq_left (by omega)]
 rw[hw,hkept]
 exact read_word s L kept hk53 hL45 hk52
theorem write_exact(s:Bool)(mag:Nat)(place:Int)(N:Nat)
  (hN:mag*2 ^ (place+1074).toNat=N*2 ^ (-1074 - place).toNat) (hR:Rp N) :
  Exu (double.write (.number s mag place)) (if s then -(N:Int) else N):=by
 show Exu (double.nearest s mag place) _
 rcases Nat.eq_zero_or_pos mag with h0|hm
 ·subst h0
  have hN0:N=0:=by
   rcases Nat.eq_zero_or_pos N with h|h
   ·exact h
   ·have:=Nat.mul_pos h (Nat.two_pow_pos (-1074 - place).toNat); omega
  clear hN hR
  subst hN0
  obtain⟨m,e,hr,he,hv⟩:=read_word s 0 0 (by omega) (by omega) (.inl rfl)
  refine⟨s,m,e,?_,he,?_⟩
  ·unfold Format.nearest; rw[if_pos rfl]; simpa using hr
  ·rw[signed_eq,hv,Nat.zero_mul]
 ·obtain⟨m,e,hr,he,hv⟩:=nearest_exact s mag place N hm hN hR
  exact⟨s,m,e,hr,he,by rw[signed_eq,hv]⟩
theorem ex_write{s:Bool}{mag:Nat}{place:Int}{v:Int}(hs:v=if s then -(v.natAbs:Int) else v.natAbs)
  (hN:mag*2 ^ (place+1074).toNat=v.natAbs*2 ^ (-1074 - place).toNat) (hR:Rp v.natAbs) :
  Exu (double.write (.number s mag place)) v:=by
 have:=write_exact s mag place v.natAbs hN hR
 rwa[←hs] at this
theorem dv_opposite{d:Datum}{a:Int}(h:DV d a):DV d.opposite (-a):=by
 obtain⟨s,m,i,rfl,hi,rfl⟩:=h
 refine⟨!s,m,i,rfl,hi,?_⟩
 rw[signed_eq,signed_eq]; cases s<;>simp
theorem mul_exact{x y:Nat}{a b c:Int}(ha:Exu x a)(hb:Exu y b)(hc:a*b=c*2 ^ UU)(hR:Rp c.natAbs) :
  ∃ r,double.mul x y=some r∧Exu r c:=by
 obtain⟨s,m,i,hx,hi,rfl⟩:=ha
 obtain⟨t,n,j,hy,hj,rfl⟩:=hb
 refine⟨double.write (.number (s ^^ t) (m*n) (i+j)),by unfold Format.mul; rw[hx,hy]; rfl,?_⟩
 have hca:m*n*2 ^ ((i+1074).toNat+(j+1074).toNat)=c.natAbs*2 ^ UU:=by
  have:=congrArg Int.natAbs hc
  rw[Int.natAbs_mul,Int.natAbs_mul,signed_natAbs,signed_natAbs,natAbs_two_pow] at this
  rw[Nat.pow_add]
  have e:m*n*(2 ^ (i+1074).toNat*2 ^ (j+1074).toNat)=m*2 ^ (i+1074).toNat*(n*2 ^ (j+1074).toNat):=by
   simp only[Nat.mul_assoc,Nat.mul_left_comm]
  rw[e,this]
 refine ex_write ?_ ?_ hR
 ·-- the sign
  have hp:(0:Int)<2 ^ UU:=Int.pow_pos (by decide)
  generalize (2:Int) ^ UU=P at hc hp
  rw[signed_eq,signed_eq] at hc
  generalize m*2 ^ (i+1074).toNat=A at *
  generalize n*2 ^ (j+1074).toNat=B at *
  have hAB:(0:Int)≤(A:Int)*(B:Int):=Int.mul_nonneg (by omega) (by omega)
  have pos:0≤c*P→0≤c:=fun h=>Int.nonneg_of_mul_nonneg_left h hp
  have neg:c*P≤0→c≤0:=fun h=>by
   rcases Int.lt_or_le 0 c with h1|h1
   ·have:=Int.mul_pos h1 hp; omega
   ·exact h1
  cases s<;>cases t<;>simp[Int.neg_mul,Int.mul_neg] at hc ⊢
  ·have:=pos (by omega); omega
  ·have:=neg (by omega); omega
  ·have:=neg (by omega); omega
  ·have:=pos (by omega); omega
 ·have hUU:=UU_eq
  have key:m*n*2 ^ (i+j+1074).toNat*2 ^ UU=c.natAbs*2 ^ (-1074 - (i+j)).toNat*2 ^ UU:=by
   rw[Nat.mul_assoc,←Nat.pow_add]
   by_cases h:-1074≤i+j
   ·have e1:(-1074 - (i+j)).toNat=0:=by omega
    have e2:(i+j+1074).toNat+UU=(i+1074).toNat+(j+1074).toNat:=by omega
    rw[e1,e2,hca]; simp
   ·have e1:(i+j+1074).toNat=0:=by omega
    have e2:UU=(i+1074).toNat+(j+1074).toNat+(-1074 - (i+j)).toNat:=by omega
    rw[e1,Nat.zero_add]
    calc m*n*2 ^ UU=m*n*2 ^ ((i+1074).toNat+(j+1074).toNat+(-1074 - (i+j)).toNat):=by rw[←e2]
     _=m*n*2 ^ ((i+1074).toNat+(j+1074).toNat)*2 ^ (-1074 - (i+j)).toNat:=by rw[Nat.pow_add,Nat.mul_assoc,Nat.mul_assoc,Nat.mul_assoc]
     _=c.natAbs*2 ^ UU*2 ^ (-1074 - (i+j)).toNat:=by rw[hca]
     _=_:=Nat.mul_right_comm _ _ _
  exact Nat.eq_of_mul_eq_mul_right (Nat.two_pow_pos _) key
theorem compare_int(a b:Int):compare a b=if a<b then .lt else if a=b then .eq else .gt:=rfl
theorem compare_scale(a b P:Int)(hp:0<P):compare a b=compare (a*P) (b*P):=by
 rw[compare_int,compare_int]
 rcases Int.lt_trichotomy a b with h|h|h
 ·have:=Int.mul_lt_mul_of_pos_right h hp
  rw[if_pos h,if_pos this]
 ·subst h; simp
 ·have:=Int.mul_lt_mul_of_pos_right h hp
  rw[if_neg (by omega),if_neg (by omega),if_neg (by omega),if_neg (by omega)]
theorem order_exact{x y:Nat}{a b:Int}(ha:Exu x a)(hb:Exu y b):double.order x y=some (compare a b):=by
 obtain⟨s,m,i,hx,hi,rfl⟩:=ha
 obtain⟨t,n,j,hy,hj,rfl⟩:=hb
 unfold Format.order
 rw[hx,hy]
 show some _=_
 obtain⟨c,hc⟩:∃ c:Int,c=min i j:=⟨_,rfl⟩
 obtain⟨u,hu⟩:∃ u:Nat,u=(c+1074).toNat:=⟨_,rfl⟩
 have e1:signed s m (i+1074).toNat=signed s m (i - c).toNat*2 ^ u:=by
  rw[signed_scale]; congr 1; omega
 have e2:signed t n (j+1074).toNat=signed t n (j - c).toNat*2 ^ u:=by
  rw[signed_scale]; congr 1; omega
 rw[←hc,e1,e2]
 generalize signed s m (i - c).toNat=A
 generalize signed t n (j - c).toNat=B
 have hp:(0:Int)<2 ^ u:=Int.pow_pos (by decide)
 generalize (2:Int) ^ u=P at hp
 congr 1
 exact compare_scale A B P hp
def rd(s:Bool)(y:Nat):Datum :=
 if y<double.binade then .number s y double.leastPlace
 else if y<double.infRung then .number s (double.binade+y % double.binade) (double.leastPlace+(y / double.binade - 1:Nat))
 else if y=double.infRung then .infinity s
 else .nan s (y - double.infRung)
theorem read_rd(x:Nat):double.read x=rd (x / 9223372036854775808 % 2 == 1) (x % 9223372036854775808):=rfl
theorem rd_not(s:Bool)(y:Nat):rd (!s) y=(rd s y).opposite:=by
 unfold rd
 by_cases c1:y<double.binade
 ·rw[if_pos c1,if_pos c1]; rfl
 ·rw[if_neg c1,if_neg c1]
  by_cases c2:y<double.infRung
  ·rw[if_pos c2,if_pos c2]; rfl
  ·rw[if_neg c2,if_neg c2]
   by_cases c3:y=double.infRung
   ·rw[if_pos c3,if_pos c3]; rfl
   ·rw[if_neg c3,if_neg c3]; rfl
theorem read_neg(x:Nat)(h:x<2 ^ 64):double.read (x ^^^ 2 ^ 63)=(double.read x).opposite:=by
 have h1:(x ^^^ 2 ^ 63) % 9223372036854775808=x % 9223372036854775808:=by
  rw[show 9223372036854775808=2 ^ 63 from rfl,Nat.xor_mod_two_pow]; simp
 have h2:((x ^^^ 2 ^ 63) / 9223372036854775808 % 2 == 1)=!(x / 9223372036854775808 % 2 == 1):=by
  rw[show 9223372036854775808=2 ^ 63 from rfl,Nat.xor_div_two_pow]
  have hx:x / 2 ^ 63<2:=by omega
  generalize x / 2 ^ 63=y at hx
  have:y=0∨y=1:=by omega
  rcases this with rfl|rfl<;>decide
 rw[read_rd,read_rd,h1,h2,rd_not]
theorem ex_neg{x:Nat}{a:Int}(hx:x<2 ^ 64)(h:Exu x a):Exu (x ^^^ 2 ^ 63) (-a):=by
 unfold Exu; rw[read_neg x hx]; exact dv_opposite h
end Tr
namespace Tr
open Go
def VOp(op:BinOp)(x y r:Nat):Prop:=floatBits op .f64 x y=some r
theorem VOp.run{P:Program}{op:BinOp}{x y r:Nat}(h:VOp op x y r)(t:TypeId)(w:World):(binOp op t (.float .f64 x) (.float .f64 y)).run P w=.ok (.float .f64 r) w :=
 run_float_arith w op t .f64 x y r h
theorem VOp.lt{op:BinOp}{x y r:Nat}(h:VOp op x y r):r<2 ^ 64:=by
 have:=floatBits_wf h
 simp[Lit.wf] at this
 exact this
@[go_sem] theorem run_store_float {P:Program} {w:World} {a:Addr} {m:Mode} (k:FloatKind) (b:Nat):(store a (.float k b) m).run P w=stored P w a (.float k b) m:=run_store P w a _ m rfl
@[go_sem] theorem run_store_complex {P:Program} {w:World} {a:Addr} {m:Mode} (k:FloatKind) (x y:Nat):(store a (.complex k x y) m).run P w=stored P w a (.complex k x y) m:=run_store P w a _ m rfl
end Tr
namespace Go.Proofs.YthklnbaddobieaaGreat
open Go.RowKit Tr
def flip(x:Nat):Nat:=x ^^^ 2 ^ 63
theorem unary_neg(x:Nat):Op.unary .neg (.float .f64 x)=pure (.float .f64 (flip x)):=rfl
end Go.Proofs.YthklnbaddobieaaGreat
namespace Go.Proofs.YthklnbaddobieaaGreat
open Go.RowKit Tr
theorem bits_of(x:Nat)(w:World):(callFunc 20 #[.float .f64 x]).run Tryz.prog w=.ok (.value (.int .u64 x)) w:=by kernel_rfl
theorem of_bits(x:Int)(w:World):(callFunc 50 #[.int .u64 x]).run Tryz.prog w=.ok (.value (.float .f64 x.toNat)) w:=by kernel_rfl
theorem andNot_sign(x:Nat)(h:x<2 ^ 64):bits .andNot .u64 (x:Int) 9223372036854775808=((x % 2 ^ 63:Nat):Int):=by
 rw[u64_andNot _ _ (by omega) (by omega) (by omega) (by omega)]
 simp only[Int.toNat_natCast]
 rw[show(18446744073709551615 - (9223372036854775808:Int).toNat)=2 ^ 63 - 1 from rfl,Nat.and_two_pow_sub_one_eq_mod]
theorem abs_any{x:Nat}(h:x<2 ^ 64)(w:World) :
  Calls Tryz.prog 98 #[.float .f64 x] w fun e w'=>e=.returned (.float .f64 (x % 2 ^ 63))∧w=w':=by
 have e1:=bits_of
 have e2:=of_bits
 have e3:=andNot_sign x h
 clear h
 go_enter Tryz.func98,Tryz.ntmps98
 go_wp2
 go_ret
 exact⟨rfl,rfl⟩
theorem isnan_any(x:Nat)(w:World) :
  Calls Tryz.prog 97 #[.float .f64 x] w fun e w'=>e=.returned (.bool (Ieee.double.order x x != some .eq))∧w=w':=by
 go_enter Tryz.func97,Tryz.ntmps97
 go_wp2
 go_ret
 exact⟨rfl,rfl⟩
theorem isinf0_any{x:Nat}(h:x<2 ^ 64)(w:World) :
  Calls Tryz.prog 38 #[.float .f64 x,.int .i64 0] w fun e w'=>e=.returned (.bool (Ieee.double.order (x % 2 ^ 63) 9218868437227405311 == some .gt))∧w=w':=by
 go_enter Tryz.func38,Tryz.ntmps38
 go_wp2_with (go_at_call 98; refine(abs_any h _).mono ?_; rintro e w' ⟨rfl,rfl⟩)
 go_ret
 exact⟨rfl,rfl⟩
end Go.Proofs.YthklnbaddobieaaGreat
namespace Tr
open Ieee
def VV(b:Nat):Nat:=if b<4503599627370496 then b else(4503599627370496+b % 4503599627370496)*2 ^ (b / 4503599627370496 - 1)
def Bt(L k:Nat):Nat:=L*4503599627370496+k
def Nf(L k:Nat):Prop:=k<9007199254740992∧(L=0∨4503599627370496≤k)
theorem VV_bt{L k:Nat}(h:Nf L k):VV (Bt L k)=k*2 ^ L:=by
 obtain⟨h1,h2⟩:=h
 unfold VV Bt
 by_cases hb:L*4503599627370496+k<4503599627370496
 ·rw[if_pos hb]
  have:L=0:=by omega
  subst this; simp
 ·rw[if_neg hb]
  rcases h2 with rfl|h2
  ·have e1:(0*4503599627370496+k) / 4503599627370496=1:=by omega
   have e2:4503599627370496+(0*4503599627370496+k) % 4503599627370496=k:=by omega
   rw[e1,e2]
  ·have e1:(L*4503599627370496+k) / 4503599627370496=L+1:=by omega
   have e2:4503599627370496+(L*4503599627370496+k) % 4503599627370496=k:=by omega
   rw[e1,e2]; rfl
theorem bt_of(b:Nat):∃ L k,Nf L k∧b=Bt L k:=by
 by_cases hb:b<4503599627370496
 ·exact⟨0,b,⟨by omega,.inl rfl⟩,by unfold Bt; omega⟩
 ·refine⟨b / 4503599627370496 - 1,4503599627370496+b % 4503599627370496,⟨by omega,.inr (by omega)⟩,?_⟩
  unfold Bt; omega
theorem VV_succ{L k:Nat}(h:Nf L k):VV (Bt L k+1)=(k+1)*2 ^ L:=by
 by_cases hk:k+1<9007199254740992
 ·have e:Bt L k+1=Bt L (k+1):=by unfold Bt; omega
  rw[e,VV_bt ⟨hk,h.2.imp id (fun x=>by omega)⟩]
 ·have hk2:k+1=9007199254740992:=by have:=h.1; omega
  have e:Bt L k+1=Bt (L+1) 4503599627370496:=by unfold Bt; omega
  rw[e,VV_bt ⟨by decide,.inr (by decide)⟩,hk2,Nat.pow_succ]; omega
theorem VV_lt(b:Nat):VV b<VV (b+1):=by
 obtain⟨L,k,h,rfl⟩:=bt_of b
 rw[VV_bt h,VV_succ h]
 exact Nat.mul_lt_mul_of_pos_right (by omega) (Nat.two_pow_pos L)
theorem VV_mono{a:Nat}:∀{b:Nat},a<b→VV a<VV b
 | 0,h=>absurd h (Nat.not_lt_zero _)
 | b+1,h=>by
  rcases Nat.lt_or_ge a b with k|k
  ·exact Nat.lt_trans (VV_mono k) (VV_lt b)
  ·have:a=b:=by omega
   subst this; exact VV_lt a
theorem VV_le{a b:Nat}(h:a≤b):VV a≤VV b:=by
 rcases Nat.lt_or_ge a b with k|k
 ·exact Nat.le_of_lt (VV_mono k)
 ·have:a=b:=by omega
  subst this; exact Nat.le_refl _
theorem VV_inj{a b:Nat}(h:VV a=VV b):a=b:=by
 rcases Nat.lt_trichotomy a b with k|k|k
 ·have:=VV_mono k; omega
 ·exact k
 ·have:=VV_mono k; omega
theorem rlt_le{a b c:Rat}(h:a<b)(k:b≤c):a<c:=by grind
theorem rle_lt{a b c:Rat}(h:a≤b)(k:b<c):a<c:=by grind
theorem below_is{b L k:Nat}{Y:Rat}(h:Nf L k)(hb:(VV b:Rat)≤Y)(hn:Y<(VV (b+1):Rat))(h1:((k*2 ^ L:Nat):Rat)≤Y)(h2:Y<(((k+1)*2 ^ L:Nat):Rat)):b=Bt L k:=by
 rw[←VV_bt h] at h1
 rw[←VV_succ h] at h2
 rcases Nat.lt_trichotomy b (Bt L k) with c|c|c
 ·have e:=VV_le (show b+1≤Bt L k by omega)
  have e':(VV (b+1):Rat)≤(VV (Bt L k):Rat):=by exact_mod_cast e
  exact absurd (rlt_le hn (Rat.le_trans e' h1)) (Rat.lt_irrefl)
 ·exact c
 ·have e:=VV_le (show Bt L k+1≤b by omega)
  have e':(VV (Bt L k+1):Rat)≤(VV b:Rat):=by exact_mod_cast e
  exact absurd (rlt_le h2 (Rat.le_trans e' hb)) (Rat.lt_irrefl)
theorem dv_fun{d:Datum}{a b:Int}(ha:DV d a)(hb:DV d b):a=b:=by
 obtain⟨s,m,e,h1,h2,h3⟩:=ha
 obtain⟨s',m',e',k1,k2,k3⟩:=hb
 rw[h1] at k1
 cases k1
 rw[←h3,←k3]
theorem word_false(b:Nat):double.word false b=b:=by unfold Format.word; simp
theorem ex_vv{b:Nat}(hb:b<9218868437227405312):Exu b (VV b:Nat):=by
 obtain⟨L,k,h,rfl⟩:=bt_of b
 have hL:L≤2045:=by
  rcases h.2 with h2|h2
  ·omega
  ·unfold Bt at hb; omega
 obtain⟨m,e,h1,h2,h3⟩:=read_word false L k h.1 hL h.2
 rw[word_false] at h1
 refine⟨false,m,e,h1,h2,?_⟩
 rw[signed_eq,VV_bt h,h3]; simp
theorem ex_pos{x:Nat}{v:Int}(h:Exu x v)(hv:0<v)(hx:x<18446744073709551616):x<9218868437227405312∧((VV x:Nat):Int)=v:=by
 have hlt:x<9218868437227405312:=by
  obtain⟨s,m,e,h1,h2,h3⟩:=h
  rcases Nat.lt_or_ge x 9223372036854775808 with c|c
  ·rcases Nat.lt_or_ge x 9218868437227405312 with c2|c2
   ·exact c2
   ·exfalso
    rw[read_rd] at h1
    have e1:x % 9223372036854775808=x:=by omega
    rw[e1] at h1
    unfold rd at h1
    rw[if_neg (show ¬x<double.binade by rw[bn]; omega),if_neg (show ¬x<double.infRung by rw[ir]; omega)] at h1
    split at h1<;>cases h1
  ·exfalso
   have hs:s=true:=by
    rw[read_rd] at h1
    have e1:(x / 9223372036854775808 % 2 == 1)=true:=by
     have:x / 9223372036854775808=1:=by omega
     rw[this]; rfl
    rw[e1] at h1
    generalize x % 9223372036854775808=y at h1
    unfold rd at h1
    by_cases c1:y<double.binade
    ·rw[if_pos c1] at h1; cases h1; rfl
    ·rw[if_neg c1] at h1
     by_cases c2:y<double.infRung
     ·rw[if_pos c2] at h1; cases h1; rfl
     ·rw[if_neg c2] at h1
      split at h1<;>cases h1
   subst hs
   rw[signed_eq,if_pos rfl] at h3
   generalize m*2 ^ (e+1074).toNat=z at h3
   omega
 exact⟨hlt,dv_fun (ex_vv hlt) h⟩
end Tr
