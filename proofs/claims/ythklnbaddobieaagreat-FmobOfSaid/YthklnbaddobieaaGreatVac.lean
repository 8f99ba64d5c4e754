/- Laws for the walk. -/
import Derived.Test.YthklnbaddobieaaGreatVab
import Derived.RangeFuncNested
import Derived.RangeFuncBound
import Derived.RangeFuncCalls
import Derived.RangeFuncLeaves
import Derived.RangeFuncBox
import Derived.Shelf.Abstract
import Derived.Shelf.RegionOpen
import Derived.OwnWalkIn
import Derived.TacticsInMore
import Derived.LoopNIn
import Derived.LoopIn
set_option linter.unusedVariables false
set_option maxHeartbeats 4000000
namespace Tr
theorem wv_drop_wat(l:List Nat)(k:Nat):wv (l.drop k)=wat l k+4294967296*wv (l.drop (k+1)):=by
 by_cases h:k<l.length
 ·rw[wv_drop h,wat_of h]
 ·rw[wat_out (by omega),List.drop_eq_nil_of_le (by omega),List.drop_eq_nil_of_le (by omega)]; rfl
theorem wv_take_drop(l:List Nat)(k:Nat)(hk:k≤l.length):wv l=wv (l.take k)+4294967296 ^ k*wv (l.drop k):=by
 conv=>lhs; rw[←List.take_append_drop k l]
 rw[wv_append]; simp[Nat.min_eq_left hk]
theorem wv_div{l:List Nat}(h:WOk l)(k:Nat)(hk:k≤l.length):wv l / 4294967296 ^ k=wv (l.drop k):=by
 rw[wv_take_drop l k hk]
 have h1:=wv_lt (wok_take h k)
 have h3:(l.take k).length=k:=by simp; omega
 rw[h3] at h1
 rw[Nat.add_mul_div_left _ _ (Nat.lt_of_le_of_lt (Nat.zero_le _) h1),Nat.div_eq_of_lt h1,Nat.zero_add]
theorem right_word{x y z s:Nat}(hs:s<32):(x+4294967296*(y+4294967296*z)) / 2 ^ s % 4294967296=(x+y*4294967296) / 2 ^ s % 4294967296:=by
 have e:(4294967296:Nat)*4294967296=2 ^ s*(2 ^ (32 - s)*4294967296):=by
  rw[←Nat.mul_assoc,←Nat.pow_add]
  have:s+(32 - s)=32:=by omega
  rw[this]
 have e2:x+4294967296*(y+4294967296*z)=(x+y*4294967296)+2 ^ s*(2 ^ (32 - s)*4294967296*z):=by
  rw[←Nat.mul_assoc (2 ^ s),←e,Nat.mul_add,←Nat.mul_assoc]; omega
 rw[e2,Nat.add_mul_div_left _ _ (Nat.two_pow_pos s)]
 have e3:2 ^ (32 - s)*4294967296*z=4294967296*(2 ^ (32 - s)*z):=by simp only[Nat.mul_assoc,Nat.mul_left_comm]
 rw[e3,Nat.add_mul_mod_self_left]
theorem right_step{l out:List Nat}{k s:Nat}(hl:WOk l)(hs:s<32)(hk:k<l.length)(ho:k<out.length)(h:wv (out.take k)=wv l / 2 ^ s % 4294967296 ^ k) :
  wv ((out.set k ((wat l k+wat l (k+1)*4294967296) / 2 ^ s % 4294967296)).take (k+1))=wv l / 2 ^ s % 4294967296 ^ (k+1):=by
 rw[wv_take_set ho,h,Nat.mod_pow_succ]
 congr 2
 rw[Nat.div_div_eq_div_mul,Nat.mul_comm (2 ^ s),←Nat.div_div_eq_div_mul,wv_div hl k (by omega),wv_drop_wat,wv_drop_wat,right_word hs]
theorem right_end{l out:List Nat}{n s:Nat}(hl:WOk l)(hn:l.length=n)(ho:out.length=n)(h:wv (out.take n)=wv l / 2 ^ s % 4294967296 ^ n):wv out=wv l / 2 ^ s:=by
 rw[List.take_of_length_le (by omega)] at h
 rw[h]
 have:=wv_lt hl
 rw[hn] at this
 exact Nat.mod_eq_of_lt (Nat.lt_of_le_of_lt (Nat.div_le_self _ _) this)
theorem right_all{l:List Nat}{q N s:Nat}(hl:WOk l)(hq:N / 32=q)(hs:N % 32=s)(hk:q≤l.length):wv (l.drop q) / 2 ^ s=wv l / 2 ^ N:=by
 rw[←wv_div hl q hk,Nat.div_div_eq_div_mul]
 congr 1
 rw[show(4294967296:Nat)=2 ^ 32 by decide,←Nat.pow_mul,←Nat.pow_add]; congr 1; omega
theorem right_none{l:List Nat}{q N:Nat}(hl:WOk l)(hq:N / 32=q)(hk:l.length≤q):wv l / 2 ^ N=0:=by
 apply Nat.div_eq_of_lt
 have:=wv_lt hl
 rw[show(4294967296:Nat)=2 ^ 32 by decide,←Nat.pow_mul] at this
 exact Nat.lt_of_lt_of_le this (Nat.pow_le_pow_right (by decide) (by omega))
end Tr
namespace Go.Proofs.YthklnbaddobieaaGreat
open Go.RowKit Tr
theorem or_high{x y:Nat}(hx:x<4294967296)(hy:y<4294967296):bits BinOp.or .u64 (x:Int) ((y:Int)*4294967296)=((x+y*4294967296:Nat):Int):=by
 have e:(y:Int)*4294967296=((y*4294967296:Nat):Int):=by simp
 rw[e,bits_or_u64_nat _ _ (by omega) (by omega),Nat.or_comm,Nat.mul_comm,show(4294967296:Nat)=2 ^ 32 by decide,←Nat.two_pow_add_eq_or_of_lt (by omega),Nat.add_comm]
theorem right_walk(la:List Nat)(n N q s:Nat)(hna:la.length=n)(oa:WOk la)(hq:N / 32=q)(hs:N % 32=s)(hqn:q<n)(b off:Nat)(ca:Nat)(hca:n≤ca)(w:World)(hbs:b<w.heap.size)(ha:∀ j,j<n→w.cell? ⟨b,off+j,none⟩=some (.int .u32 (la[j]?.getD 0:Nat)))(hn:n<1099511627776)(hN:N<1099511627776) :
  Calls Tryz.prog 153 #[.slice (some ⟨b,off,none⟩) n ca,.int .i64 N] w fun e w'=>∃ v,e=.returned v∧WSl w' v (words (wv la / 2 ^ N))∧Below w.heap.size w w':=by
 have H:=Lib.hid hna
 have HA:=Lib.hid ha
 obtain⟨m,hm⟩:∃ m,n - q=m:=⟨_,rfl⟩
 have hmk:=run_mk m (by omega)
 have e1:(N:Int).tdiv 32=(q:Int):=by rw[Int.tdiv_eq_ediv_of_nonneg (by omega)]; omega
 have e2:(N:Int).tmod 32=(s:Int):=by rw[Int.tmod_eq_emod_of_nonneg (by omega)]; omega
 obtain⟨l,hl⟩:∃ l:List Nat,l=la.drop q:=⟨_,rfl⟩
 have ol:WOk l:=by rw[hl]; exact wok_drop oa q
 have HL:Hid (l.length=m):=Lib.hid (by rw[hl]; simp; omega)
 have HC:Hid (∀ j,j<m→w.cell? ⟨b,off+q+j,none⟩=some (.int .u32 (l[j]?.getD 0:Nat))):=Lib.hid (fun j hj=>by
  rw[hl,List.getElem?_drop,Nat.add_assoc]; exact ha (q+j) (by omega))
 have HF:Hid (wv l / 2 ^ s=wv la / 2 ^ N):=Lib.hid (by rw[hl]; exact right_all oa hq hs (by omega))
 clear ha hna hl HA
 go_enter Tryz.func153,Tryz.ntmps153
 go_wp2_with fail
 go_loopw [6,7,8,23] (fun _ _ _ i wr=>∃(k:Nat) (out:List Nat),k≤m∧i=.int .i64 k∧Hid (out.length=m)∧WOk out∧Hid (wv (out.take k)=wv l / 2 ^ s % 4294967296 ^ k)∧Blk wr w.heap.size out∧Below w.heap.size w wr)
  (fun _ _ _ i _=>m - (intOf i).toNat)
 case atStart =>
  exact⟨0,List.replicate m 0,Nat.zero_le _,rfl,Lib.hid (by simp),wok_replicate _,Lib.hid (by simp[wv,Nat.mod_one]),Blk.new _ _,br.alloc (Nat.le_refl _) _⟩
 case round =>
  obtain⟨k,out,hk,rfl,hlo,oo,hinv,hblk,hB⟩:=hrel
  have hs32:s<32:=by omega
  by_cases hlt2:k<m
  ·have c0:=(hB.cell (p:=⟨b,off+q+k,none⟩) hbs).trans (HC.out k hlt2)
   have c1:=hblk.cell (i:=k) (by have:=hlo.out; omega)
   have c2:=hblk.frozen k
   have bx:l[k]?.getD 0<4294967296:=wat_lt ol k
   have hst:=right_step (s:=s) (k:=k) ol hs32 (by have:=HL.out; omega) (by have:=hlo.out; omega) hinv.out
   by_cases hkm:k+1<m
   ·have c3:=(hB.cell (p:=⟨b,off+q+(k+1),none⟩) hbs).trans (HC.out (k+1) hkm)
    have by_:l[k+1]?.getD 0<4294967296:=wat_lt ol (k+1)
    obtain⟨t,ht⟩:∃ t:Nat,t=wat l k+wat l (k+1)*4294967296:=⟨_,rfl⟩
    have hor:=or_high bx by_
    rw[←ht] at hst
    have ht':l[k]?.getD 0+l[k+1]?.getD 0*4294967296=t:=ht.symm
    rw[ht'] at hor
    have ht2:t<18446744073709551616:=by omega
    have HE:Hid ((t:Int) / 2 ^ s % 4294967296=((t / 2 ^ s % 4294967296:Nat):Int)):=Lib.hid (by simp)
    have HS:=Lib.hid hst
    clear ht ht' hst
    go_wp2
    go_roundw
    case rel =>
     rw[HE.out]
     exact⟨k+1,_,by omega,by go_num,Lib.hid (by have:=hlo.out; simpa using this),wok_set oo _ _ (Nat.mod_lt _ (by decide)),HS,hblk.set _ _,hB.setCell (p:=⟨w.heap.size,k,none⟩) (Nat.le_refl _) _⟩
    case measure=>simp[intOf]; omega
   ·have h0:wat l (k+1)=0:=wat_out (by have:=HL.out; omega)
    obtain⟨t,ht⟩:∃ t:Nat,t=l[k]?.getD 0:=⟨_,rfl⟩
    have hst2:wv ((out.set k (t / 2 ^ s % 4294967296)).take (k+1))=wv l / 2 ^ s % 4294967296 ^ (k+1):=by
     rw[h0] at hst; rw[ht]; simpa[wat] using hst
    rw[←ht] at c0 bx
    have HE:Hid ((t:Int) / 2 ^ s % 4294967296=((t / 2 ^ s % 4294967296:Nat):Int)):=Lib.hid (by simp)
    have HS:=Lib.hid hst2
    clear ht hst hst2 h0
    go_wp2
    go_roundw
    case rel =>
     rw[HE.out]
     exact⟨k+1,_,by omega,by go_num,Lib.hid (by have:=hlo.out; simpa using this),wok_set oo _ _ (Nat.mod_lt _ (by decide)),HS,hblk.set _ _,hB.setCell (p:=⟨w.heap.size,k,none⟩) (Nat.le_refl _) _⟩
    case measure=>simp[intOf]; omega
  ·obtain rfl:m=k:=by omega
   have hfin:=Lib.hid (right_end ol HL.out hlo.out hinv.out)
   have hW:=hblk.wsl (k:=m) (cap:=m) (by have:=hlo.out; omega) (Nat.le_refl _)
   rw[List.take_of_length_le (by have:=hlo.out; omega)] at hW
   go_wp2_with (go_at_call 201; refine(cut_any _ _ _ oo hW (by rw[hlo.out]; omega)).mono ?_; rintro e w' ⟨v,rfl,hv,rfl⟩)
   go_ret
   exact⟨v,rfl,by rw[hfin.out,HF.out] at hv; exact hv,hB⟩
theorem right_any(la:List Nat)(N:Nat)(va:Value)(w:World)(oa:WOk la)(ha:WSl w va la)(hn:la.length<1099511627776)(hN:N<1099511627776) :
  Calls Tryz.prog 153 #[va,.int .i64 N] w fun e w'=>∃ v,e=.returned v∧WSl w' v (words (wv la / 2 ^ N))∧Below w.heap.size w w':=by
 obtain⟨pa,ca,rfl,hca,ha⟩:=ha
 by_cases h:N / 32<la.length
 ·obtain⟨b,off,rfl,h1,h2⟩:=ha (by intro h0; rw[h0] at h; simp at h)
  exact right_walk la _ N _ _ rfl oa rfl rfl h b off ca hca w h1 h2 hn hN
 ·have hz:=right_none oa rfl (Nat.le_of_not_lt h)
  obtain⟨q,hq⟩:∃ q,N / 32=q:=⟨_,rfl⟩
  obtain⟨n,hn'⟩:∃ n,la.length=n:=⟨_,rfl⟩
  rw[hz,words_zero,hn']
  rw[hn',hq] at h
  have e1:(N:Int).tdiv 32=(q:Int):=by rw[Int.tdiv_eq_ediv_of_nonneg (by omega)]; omega
  have hle:(n:Int)≤(q:Int):=by omega
  clear ha hca hz
  go_enter Tryz.func153,Tryz.ntmps153
  go_wp2
  go_ret
  exact⟨_,rfl,WSl.nil w,Below.refl _ _⟩
end Go.Proofs.YthklnbaddobieaaGreat
namespace Go.Proofs.YthklnbaddobieaaGreat
open Go.RowKit Tr
theorem below_drewN{B:Nat}{a w:World}(h:Below B a w)(n:Nat):Below B a (w.drewN n):=⟨h.os,h.tape,h.output,h.size,h.block⟩
set_option maxRecDepth 100000 in
theorem sproduct_walk(la lb:List Nat)(n m:Nat)(hna:la.length=n)(hnb:lb.length=m)(oa:WOk la)(ob:WOk lb)(pa pb:Option Addr)(ca cb:Nat)(w:World)(ha:Row w pa la)(hb:Row w pb lb)(hn:n<549755813888)(hm:m<549755813888) :
  Calls Tryz.prog 172 #[.slice pa n ca,.slice pb m cb] w fun e w'=>∃ v,e=.returned v∧WSl w' v (words (wv la*wv lb))∧Below w.heap.size w w':=by
 have H:=Lib.hid (And.intro hna hnb)
 have HA:=Lib.hid ha
 have HB:=Lib.hid hb
 have hmk:=run_mk (n+m) (by omega)
 have en:((n+m:Nat):Int)=(n:Int)+m:=by omega
 rw[en] at hmk
 clear ha hb hna hnb en
 go_enter Tryz.func172,Tryz.ntmps172
 go_wp2
 go_loopw [6,7,8,9] (fun i _ _ _ wr=>∃(k:Nat) (out:List Nat),k≤n∧i=.int .i64 k∧Hid (out.length=n+m)∧WOk out∧Hid (wv out=wv (la.take k)*wv lb)∧Blk wr w.heap.size out∧Below w.heap.size w wr)
  (fun i _ _ _ _=>n - (intOf i).toNat)
 case atStart =>
  exact⟨0,List.replicate (n+m) 0,Nat.zero_le _,rfl,Lib.hid (by simp),wok_replicate _,Lib.hid (by rw[wv_replicate]; simp[wv]),Blk.new _ _,br.alloc (Nat.le_refl _) _⟩
 case round =>
  obtain⟨k,out,hk,rfl,hlo,oo,hinv,hblk,hB⟩:=hrel
  by_cases hlt2:k<n
  ·obtain⟨b,off,rfl,hbs,hcl⟩:=HA.out (by intro h; have:=H.out.1; rw[h] at this; simp at this; omega)
   have c0:=(hB.cell (p:=⟨b,off+k,none⟩) hbs).trans (hcl k (by have:=H.out.1; omega))
   have bx:la[k]?.getD 0<4294967296:=wat_lt oa k
   have hroom:=Lib.hid (product_room (i:=k) (m:=m) oa ob H.out.2 (by have:=H.out.1; omega) hinv.out)
   clear hcl
   obtain⟨wo,rfl⟩:∃ wo:World,wo=wr:=⟨_,rfl⟩
   go_wp2
   go_loopw [7,9] (fun c j wr=>∃(k2 cr:Nat) (out2:List Nat),k2≤m∧j=.int .i64 k2∧c=.int .u64 cr∧cr<4294967296∧Hid (out2.length=n+m)∧WOk out2∧Hid (wat out2 (k+m)=0)∧Hid (wv out2+4294967296 ^ (k+k2)*cr=wv (la.take k)*wv lb+4294967296 ^ k*(wat la k*wv (lb.take k2)))∧Blk wr w.heap.size out2∧Below w.heap.size w wr)
    (fun _ j _=>m - (intOf j).toNat)
   case atStart =>
    exact⟨0,0,out,Nat.zero_le _,rfl,rfl,by omega,hlo,oo,hroom,Lib.hid (by simpa[wv] using hinv.out),hblk,hB⟩
   case round =>
    obtain⟨k2,cr,out2,hk2,rfl,rfl,hcr,hlo2,oo2,hz2,hinv2,hblk2,hB2⟩:=hrel
    by_cases hlt3:k2<m
    ·obtain⟨b2,off2,rfl,hbs2,hcl2⟩:=HB.out (by intro h; have:=H.out.2; rw[h] at this; simp at this; omega)
     have c3:=(hB2.cell (p:=⟨b2,off2+k2,none⟩) hbs2).trans (hcl2 k2 (by have:=H.out.2; omega))
     have by_:lb[k2]?.getD 0<4294967296:=wat_lt ob k2
     have bo:out2[k+k2]?.getD 0<4294967296:=wat_lt oo2 _
     have c1:=hblk2.cell (i:=k+k2) (by have:=hlo2.out; omega)
     have c2:=hblk2.frozen (k+k2)
     have hxy:=word_mul bx by_
     have e1:((cr:Int)+(la[k]?.getD 0:Nat)*(lb[k2]?.getD 0:Nat)+(out2[k+k2]?.getD 0:Nat)) % 4294967296=((cr+(wat la k*wat lb k2+wat out2 (k+k2))) % 4294967296:Nat):=by simp[wat,Int.add_assoc]
     have e2:((cr:Int)+(la[k]?.getD 0:Nat)*(lb[k2]?.getD 0:Nat)+(out2[k+k2]?.getD 0:Nat)) / 4294967296=((cr+(wat la k*wat lb k2+wat out2 (k+k2))) / 4294967296:Nat):=by simp[wat,Int.add_assoc]
     have hst:=Lib.hid (product_step (x:=wat la k) (by have:=hlo2.out; omega) hinv2.out)
     have hcr':(cr+(wat la k*wat lb k2+wat out2 (k+k2))) / 4294967296<4294967296:=by unfold wat; omega
     have E:=Lib.hid (And.intro e1 e2)
     clear hcl2 e1 e2
     go_wp2
     go_quiet (fail)
     go_wp2
     go_roundw
     case rel =>
      rw[E.out.1,E.out.2]
      exact⟨k2+1,_,_,by omega,by go_num,rfl,hcr',Lib.hid (by have:=hlo2.out; simpa using this),wok_set oo2 _ _ (Nat.mod_lt _ (by decide)),Lib.hid (by rw[wat_set_ne (by omega)]; exact hz2.out),hst,hblk2.set _ _,(below_drewN hB2 _).setCell (p:=⟨w.heap.size,k+k2,none⟩) (Nat.le_refl _) _⟩
     case measure=>simp[intOf]; omega
    ·obtain rfl:m=k2:=by omega
     have hfin:=Lib.hid (product_row (out:=out2) (la:=la) (lb:=lb) (i:=k) (m:=m) (by have:=hlo2.out; omega) H.out.2 hz2.out hinv2.out)
     have c1:=hblk2.cell (i:=k+m) (by have:=hlo2.out; omega)
     have c2:=hblk2.frozen (k+m)
     go_wp2
     go_roundw
     case rel =>
      exact⟨k+1,_,by omega,by go_num,Lib.hid (by have:=hlo2.out; simpa using this),wok_set oo2 _ _ hcr,hfin,hblk2.set _ _,hB2.setCell (p:=⟨w.heap.size,k+m,none⟩) (Nat.le_refl _) _⟩
     case measure=>simp[intOf]; omega
  ·obtain rfl:n=k:=by omega
   have hfin:Hid (wv out=wv la*wv lb):=Lib.hid (by have:=hinv.out; rwa[List.take_of_length_le (by have:=H.out.1; omega)] at this)
   have hcut:=Lib.hid (scut_any out _ wr oo (hblk.wsl (k:=n+m) (cap:=n+m) (by have:=hlo.out; omega) (Nat.le_refl _) |> fun x=>by rwa[List.take_of_length_le (by have:=hlo.out; omega)] at x) (by have:=hlo.out; omega))
   go_wp2_with (refine hcut.out.mono ?_; rintro e w' ⟨v,rfl,hv,rfl⟩)
   go_ret
   exact⟨v,rfl,by rw[←hfin.out]; exact hv,hB⟩
theorem sproduct_any(la lb:List Nat)(va vb:Value)(w:World)(oa:WOk la)(ob:WOk lb)(ha:WSl w va la)(hb:WSl w vb lb)(hn:la.length<549755813888)(hm:lb.length<549755813888) :
  Calls Tryz.prog 172 #[va,vb] w fun e w'=>∃ v,e=.returned v∧WSl w' v (words (wv la*wv lb))∧Below w.heap.size w w':=by
 obtain⟨pa,ca,rfl,hca,ha⟩:=ha
 obtain⟨pb,cb,rfl,hcb,hb⟩:=hb
 exact sproduct_walk la lb _ _ rfl rfl oa ob pa pb ca cb w ha hb hn hm
set_option maxRecDepth 100000 in
theorem sup_walk(la:List Nat)(n N q s:Nat)(hna:la.length=n)(hn0:0<n)(oa:WOk la)(hq:N / 32=q)(hs:N % 32=s)(pa:Option Addr)(ca:Nat)(w:World)(ha:Row w pa la)(hn:n<549755813888)(hN:N<1099511627776) :
  Calls Tryz.prog 174 #[.slice pa n ca,.int .i64 N] w fun e w'=>∃ v,e=.returned v∧WSl w' v (words (wv la*2 ^ N))∧Below w.heap.size w w':=by
 have H:=Lib.hid hna
 have HA:=Lib.hid ha
 have hmk:=run_mk2 q (q+n+1) (by omega) (by omega)
 have en:((q+n+1:Nat):Int)=(q:Int)+n+1:=by omega
 rw[en] at hmk
 have e1:(N:Int).tdiv 32=(q:Int):=by rw[Int.tdiv_eq_ediv_of_nonneg (by omega)]; omega
 have e0:((n:Int) == 0)=false:=by simp; omega
 clear ha hna en hn0
 go_enter Tryz.func174,Tryz.ntmps174
 go_wp2_with fail
 go_loopw [5,6,7] (fun v c i wr=>∃(k cr:Nat) (l:List Nat),k≤n∧i=.int .i64 k∧c=.int .u64 cr∧cr<2 ^ s∧v=.slice (some ⟨w.heap.size,0,none⟩) (q+k) (q+n+1)∧WOk l∧Hid (wv l+4294967296 ^ (q+k)*cr=4294967296 ^ q*(wv (la.take k)*2 ^ s))∧Own wr w.heap.size (q+k) l (q+n+1)∧Below w.heap.size w wr)
  (fun _ _ i _=>n - (intOf i).toNat)
 case atStart =>
  exact⟨0,0,List.replicate q 0,Nat.zero_le _,rfl,rfl,Nat.two_pow_pos s,rfl,wok_replicate _,Lib.hid (by rw[wv_replicate]; simp[wv]),Own.new _ _ _ (by omega) (by omega),br.alloc (Nat.le_refl _) _⟩
 case round =>
  obtain⟨k,cr,l,hk,rfl,rfl,hcr,rfl,ol,hinv,hown,hB⟩:=hrel
  by_cases hlt2:k<n
  ·obtain⟨b,off,rfl,hbs,hcl⟩:=HA.out (by intro h; have:=H.out; rw[h] at this; simp at this; omega)
   have c0:=(hB.cell (p:=⟨b,off+k,none⟩) hbs).trans (hcl k (by have:=H.out; omega))
   have bx:la[k]?.getD 0<4294967296:=wat_lt oa k
   have e2:(N:Int).tmod 32=(s:Int):=by rw[Int.tmod_eq_emod_of_nonneg (by omega)]; omega
   have hs32:s<32:=by omega
   have hp:(2:Nat) ^ s≤2 ^ 31:=Nat.pow_le_pow_right (by decide) (by omega)
   obtain⟨y,hy⟩:∃ y:Nat,y=la[k]?.getD 0*2 ^ s:=⟨_,rfl⟩
   obtain⟨t,ht⟩:∃ t:Nat,t=cr+la[k]?.getD 0*2 ^ s:=⟨_,rfl⟩
   have ht1:t<4294967296*2 ^ s:=by
    have:(la[k]?.getD 0+1)*2 ^ s≤4294967296*2 ^ s:=Nat.mul_le_mul_right _ bx
    rw[Nat.add_mul] at this
    omega
   have ht2:t<18446744073709551616:=by omega
   have hor:IntKind.u64.wrap ((la[k]?.getD 0:Nat)*2 ^ s:Int)=(y:Int):=by
    have e:((la[k]?.getD 0:Nat)*2 ^ s:Int)=(y:Int):=by rw[hy]; simp
    rw[e]; show(y:Int) % 18446744073709551616=_; omega
   have hyt:(cr:Int)+(y:Int)=(t:Int):=by omega
   have hcr2:t / 4294967296<2 ^ s:=Nat.div_lt_of_lt_mul ht1
   have hst:=Lib.hid (left_step (la:=la) hown.length ht hinv.out)
   obtain⟨i0,hi,hz0,hz1,hz2⟩:=info_parts info_u32
   have HE:Hid ((t:Int) % 4294967296=((t % 4294967296:Nat):Int)):=Lib.hid (by omega)
   clear hcl ht ht1 hy
   go_wp2_with (first|(at_builtin; rw[HE.out]; refine wpList_append_fits _ rfl (.tmp 36) (.tmp 40) 129 rfl w.heap.size 192 i0 1 Tryz.underlying129 hi hz1 w.heap.size (q+k) (q+n+1) _ rfl (hown.alloc _) ⟨wr.heap.size,0,none⟩ 1 1 [.int .u32 ((t % 4294967296:Nat):Int)] rfl rfl (cell_one_new _ _ _) (ints_oneCell .u32 [((t % 4294967296:Nat):Int)]) (by omega) ?_; intro w4 hown4 hgrow4))
   have hB4:Below w.heap.size w w4:=(hB.alloc hB.size _).grown hgrow4 (by have:=hB.size; simp; omega) (fun k e=>by cases e; exact Nat.le_refl _)
   go_roundw
   case rel=>exact⟨k+1,_,l++[t % 4294967296],by omega,by go_num,rfl,hcr2,rfl,by rw[wok_append]; exact⟨ol,by rw[wok_cons]; exact⟨Nat.mod_lt _ (by decide),wok_nil⟩⟩,hst,Own.more hown4,hB4⟩
   case measure=>simp[intOf]; omega
  ·obtain rfl:n=k:=by omega
   have hp:(2:Nat) ^ s≤2 ^ 31:=Nat.pow_le_pow_right (by decide) (by omega)
   have hcr2:cr<4294967296:=by omega
   have hfin:=Lib.hid (left_end hown.length H.out hq hs hinv.out)
   have ol2:WOk (l++[cr]):=by rw[wok_append]; exact⟨ol,by rw[wok_cons]; exact⟨hcr2,wok_nil⟩⟩
   obtain⟨i0,hi,hz0,hz1,hz2⟩:=info_parts info_u32
   go_wp2_with (first
    | (at_builtin; refine wpList_append_fits _ rfl (.tmp 44) (.tmp 47) 129 rfl w.heap.size 192 i0 1 Tryz.underlying129 hi hz1 w.heap.size (q+n) (q+n+1) _ rfl (hown.alloc _) ⟨wr.heap.size,0,none⟩ 1 1 [.int .u32 (cr:Int)] rfl rfl (cell_one_new _ _ _) (ints_oneCell .u32 [(cr:Int)]) (by omega) ?_; intro w4 hown4 hgrow4; have hW:=(Own.more hown4).wsl)
    | (go_at_call 200; refine(scut_any _ _ _ ol2 hW (by rw[List.length_append,hown.length]; simp; omega)).mono ?_; rintro e w' ⟨v,rfl,hv,rfl⟩))
   go_ret
   have hB4:Below w.heap.size w w4:=(hB.alloc hB.size _).grown hgrow4 (by have:=hB.size; simp; omega) (fun k e=>by cases e; exact Nat.le_refl _)
   exact⟨v,rfl,by rw[hfin.out] at hv; exact hv,hB4⟩
theorem sup_any(la:List Nat)(N:Nat)(va:Value)(w:World)(oa:WOk la)(ha:WSl w va la)(hn:la.length<549755813888)(hN:N<1099511627776) :
  Calls Tryz.prog 174 #[va,.int .i64 N] w fun e w'=>∃ v,e=.returned v∧WSl w' v (words (wv la*2 ^ N))∧Below w.heap.size w w':=by
 obtain⟨pa,ca,rfl,hca,ha⟩:=ha
 rcases Nat.eq_zero_or_pos la.length with h0|h0
 ·have hl:=List.eq_nil_of_length_eq_zero h0
  subst hl
  have hz:words (wv []*2 ^ N)=[]:=by rw[wv_nil,Nat.zero_mul,words_zero]
  rw[hz]
  simp only[List.length_nil]
  go_enter Tryz.func174,Tryz.ntmps174
  go_wp2
  go_ret
  exact⟨_,rfl,WSl.nil _,Below.refl _ _⟩
 ·exact sup_walk la _ N _ _ rfl h0 oa rfl rfl pa ca w ha hn hN
end Go.Proofs.YthklnbaddobieaaGreat
namespace Go.Proofs.YthklnbaddobieaaGreat
open Go.RowKit Go.Shelf
attribute [local go_sem] Oper.semAt_some
def upto{α:Type}(f:Nat→α)(k:Nat):List α:=(List.range k).map f
theorem upto_succ{α:Type}(f:Nat→α)(k:Nat):upto f (k+1)=upto f k++[f k]:=by simp[upto,List.range_succ]
theorem upto_length{α:Type}(f:Nat→α)(k:Nat):(upto f k).length=k:=by simp[upto]
def Holds1{α:Type}(enc:α→Value)(n₀:Nat)(W:World)(sv:Value)(f:Nat→α)(len:Nat):Prop :=
 (sv=.slice none 0 0∧len=0)∨∃ b off cap,sv=.slice (some ⟨b,off,none⟩) len cap∧b<n₀∧∀ j,j<len→W.cell? ⟨b,off+j,none⟩=some (enc (f j))
theorem Holds1.below{α:Type}{enc:α→Value}{n₀:Nat}{A B:World}(h:Below n₀ A B){sv:Value}{f:Nat→α}{len:Nat}:Holds1 enc n₀ A sv f len→Holds1 enc n₀ B sv f len
 | .inl e=>.inl e
 | .inr ⟨b,off,cap,e,hb,hc⟩=>.inr ⟨b,off,cap,e,hb,fun j hj=>(h.cell (p:=⟨b,off+j,none⟩) hb).trans (hc j hj)⟩
theorem fence_wide_fn(f:FuncId):Fence.wide.fn f:=trivial
theorem leave_marks{P:Program}{fn:Func}{R:Ending→World→Prop}{tmps:Array Value}{D:Nat}{w:World}{v:Value}(hK:w.heap[D]?=some (.deferred (some [])))
  (hr:(results fn tmps).run P (w.putObj D (.deferred none))=.ok v (w.putObj D (.deferred none))) (hR:R (.returned v) (w.putObj D (.deferred none))) :
  bodyPostM Fence.wide 3 P fn R .ret { tmps:=tmps,defers:=[{ target:=.collected D,args:=#[] }] } w :=
 ⟨by simp,.inl ⟨_,_,rfl,run_takeDeferred hK,⟨_,hr,hR⟩⟩⟩
theorem heap_set(w:World)(b o:Nat)(u:Value)(k:Nat)(h:k≠b):(w.setCell ⟨b,o,none⟩ u).heap[k]?=w.heap[k]?:=Below.heap_setCell _ _ _ _ h
theorem below_set{B:Nat}{a w:World}(h:Below B a w){b o:Nat}(hp:B≤b)(u:Value):Below B a (w.setCell ⟨b,o,none⟩ u):=h.setCell (p:=⟨b,o,none⟩) hp u
end Go.Proofs.YthklnbaddobieaaGreat
namespace Go.Proofs.YthklnbaddobieaaGreat
open Go.RowKit Go.Shelf
attribute [local go_sem] Oper.semAt_some
theorem wpListIn_load_any{F:Fence}{n:Nat}{P:Program}{ops:Array Oper}{rest:List Oper}{o:Oper}{a:Act}{w:World}{Q:Exit→Act→World→Prop}(hgd:o.guard=none)(ty:TypeId)(x:Operand)(ho:o.op=.load ty x)
  (p:Addr) (v:Value) (hx:a.eval x=.pointer (some p)) (hl:(loadVar ty p).run P w=.ok v w)
  (h:wpListIn F n P ops Q rest (a.put o.dst v) w):wpListIn F n P ops Q (o :: rest) a w :=
 wpListIn_plain hgd fun K hK=>by
  refine⟨fun f hf=>(by simp only[Oper.about,ho] at hf; cases hf),?_⟩
  have e:(o.semAt F.round a.eval).run P w=.ok (.value v) w:=by
   rw[Oper.semAt_plain F _ _ (fun c=>by rw[ho]; exact nofun)]
   unfold execOp
   simp only[ho,hx,Instr.loadAt,Instr.sureAddr,Sem.run_bind,Sem.run_pure,Result.andThen_ok,hl]
  rw[e]
  exact hK _ _ h
end Go.Proofs.YthklnbaddobieaaGreat
namespace Go.Proofs.YthklnbaddobieaaGreat
open Go.RowKit Go.Shelf
theorem wpList_load_any{P:Program}{ops:Array Oper}{rest:List Oper}{o:Oper}{a:Act}{w:World}{Q:Exit→Act→World→Prop}(hgd:o.guard=none)(ty:TypeId)(x:Operand)(ho:o.op=.load ty x)
  (p:Addr) (v:Value) (hx:a.eval x=.pointer (some p)) (hl:(loadVar ty p).run P w=.ok v w)
  (h:wpList P ops Q rest (a.put o.dst v) w):wpList P ops Q (o :: rest) a w :=
 wpList_plain hgd fun K hK=>by
  unfold Oper.wp
  have e:(execOp a.eval o).run P w=.ok (.value v) w:=by
   unfold execOp
   simp only[ho,hx,Instr.loadAt,Instr.sureAddr,Sem.run_bind,Sem.run_pure,Result.andThen_ok,hl]
  rw[e]
  exact hK _ _ h
end Go.Proofs.YthklnbaddobieaaGreat
