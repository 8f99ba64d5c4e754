/- Laws for the walk. -/
import Derived.Test.YthklnbaddobieaaGreatUak
import Derived.BigRegion
set_option linter.unusedVariables false
set_option maxHeartbeats 4000000
namespace Tr
def BitsOf(n N:Nat):Prop:=n<2 ^ N∧(N=0∨2 ^ (N - 1)≤n)
theorem bits_end{a m k bt:Nat}(hm:(words a).length=m)(hm0:0<m)(hbt:bt=(words a)[m - 1]?.getD 0)(h1:2147483648≤bt*2 ^ k)(h2:bt*2 ^ k<4294967296)(hk:k≤31):BitsOf a (32*m - k):=by
 have h3:=wv_take_drop (words a) (m - 1) (by omega)
 rw[wv_words,wv_drop_wat,List.drop_eq_nil_of_le (show(words a).length≤m - 1+1 by omega)] at h3
 rw[show wat (words a) (m - 1)=bt from hbt.symm] at h3
 simp only[wv,Nat.mul_zero,Nat.add_zero] at h3
 have h4:=wv_lt (wok_take (wok_words a) (m - 1))
 have h5:((words a).take (m - 1)).length=m - 1:=by simp; omega
 rw[h5] at h4
 have hB:(4294967296:Nat) ^ (m - 1)=2 ^ (32*(m - 1)):=by rw[show(4294967296:Nat)=2 ^ 32 by decide,←Nat.pow_mul]
 have hp:=Nat.two_pow_pos k
 constructor
 ·have h6:(bt+1)*2 ^ k≤2 ^ 32:=by
   have e:(4294967296:Nat)=2 ^ (32 - k)*2 ^ k:=by rw[←Nat.pow_add,show 32 - k+k=32 by omega]
   rw[show(2:Nat) ^ 32=4294967296 by decide,e]
   rw[e] at h2
   exact Nat.mul_le_mul_right _ (Nat.lt_of_mul_lt_mul_right h2)
  have h7:bt+1≤2 ^ (32 - k):=by
   have e:(2:Nat) ^ 32=2 ^ (32 - k)*2 ^ k:=by rw[←Nat.pow_add,show 32 - k+k=32 by omega]
   rw[e] at h6
   exact Nat.le_of_mul_le_mul_right h6 hp
  have h8:a<4294967296 ^ (m - 1)*(bt+1):=by rw[Nat.mul_add]; omega
  have h9:4294967296 ^ (m - 1)*(bt+1)≤4294967296 ^ (m - 1)*2 ^ (32 - k):=Nat.mul_le_mul_left _ h7
  rw[hB,←Nat.pow_add,show 32*(m - 1)+(32 - k)=32*m - k by omega] at h9
  rw[hB] at h8
  omega
 ·right
  have h6:2 ^ (31 - k)≤bt:=by
   have e:(2147483648:Nat)=2 ^ (31 - k)*2 ^ k:=by rw[←Nat.pow_add,show 31 - k+k=31 by omega]
   rw[e] at h1
   exact Nat.le_of_mul_le_mul_right h1 hp
  have h9:4294967296 ^ (m - 1)*2 ^ (31 - k)≤4294967296 ^ (m - 1)*bt:=Nat.mul_le_mul_left _ h6
  rw[hB,←Nat.pow_add,show 32*(m - 1)+(31 - k)=32*m - k - 1 by omega] at h9
  rw[hB] at h3
  omega
theorem bits_zero:BitsOf 0 0:=⟨by decide,.inl rfl⟩
theorem bytes_of_bits{n N:Nat}(h:BitsOf n N):(byteLE n).length=(N+7) / 8:=by
 have e:∀ k,(256:Nat) ^ k=2 ^ (8*k):=fun k=>by rw[show(256:Nat)=2 ^ 8 by decide,←Nat.pow_mul]
 refine byteLE_length ?_ ?_
 ·rw[e]; exact Nat.lt_of_lt_of_le h.1 (Nat.pow_le_pow_right (by decide) (by omega))
 ·rcases h.2 with h0|h0
  ·left; subst h0; rfl
  ·rcases Nat.eq_zero_or_pos N with hN|hN
   ·left; subst hN; rfl
   ·right; rw[e]; exact Nat.le_trans (Nat.pow_le_pow_right (by decide) (by omega)) h0
theorem wat_words(a q:Nat):wat (words a) q=a / 4294967296 ^ q % 4294967296:=by
 by_cases h:q≤(words a).length
 ·have h1:=wv_div (wok_words a) q h
  rw[wv_words,wv_drop_wat] at h1
  rw[h1,Nat.add_mul_mod_self_left,Nat.mod_eq_of_lt (wat_lt (wok_words a) q)]
 ·rw[wat_out (by omega),Nat.div_eq_of_lt]
  exact Nat.lt_of_lt_of_le (lt_words a) (Nat.pow_le_pow_right (by decide) (by omega))
theorem byte_of_word(a q r:Nat)(hr:r<4):a / 4294967296 ^ q % 4294967296 / 2 ^ (8*r) % 256=a / 256 ^ (4*q+r) % 256:=by
 have e1:(4294967296:Nat)=2 ^ (8*r)*2 ^ (32 - 8*r):=by rw[←Nat.pow_add,show 8*r+(32 - 8*r)=32 by omega]
 have e2:(256:Nat) ^ (4*q+r)=4294967296 ^ q*2 ^ (8*r):=by
  rw[show(4294967296:Nat)=256 ^ 4 by decide,←Nat.pow_mul,show(2:Nat) ^ (8*r)=256 ^ r by rw[Nat.pow_mul],←Nat.pow_add]
 have e3:a / 4294967296 ^ q % 4294967296 / 2 ^ (8*r)=a / 4294967296 ^ q / 2 ^ (8*r) % 2 ^ (32 - 8*r):=by
  conv=>lhs; rw[e1,Nat.mod_mul_right_div_self]
  rw[←e1]
 rw[e3,Nat.mod_mod_of_dvd,e2,Nat.div_div_eq_div_mul]
 exact⟨2 ^ (24 - 8*r),by rw[show(256:Nat)=2 ^ 8 by decide,←Nat.pow_add]; congr 1; omega⟩
end Tr
namespace Go.Proofs.YthklnbaddobieaaGreat
open Go.RowKit Tr
set_option maxRecDepth 100000 in
theorem BitLen_any(x:Int)(vx:Value)(A:Nat→Prop)(w:World)(hx:IntP x vx w A)(hn:(words x.natAbs).length<274877906944) :
  Calls Tryz.prog 85 #[vx] w fun e w'=>∃ N:Nat,e=.returned (.int .i64 N)∧Hid (BitsOf x.natAbs N)∧N≤32*(words x.natAbs).length∧Below w.heap.size w w':=by
 obtain⟨b,bo,sl,rfl,hb,_,c0,c1,hsl⟩:=hx
 have hw:=hsl.wsl
 obtain⟨p,cap,rfl,hcap,hrow⟩:=hw
 obtain⟨a,ha⟩:∃ a,a=x.natAbs:=⟨_,rfl⟩
 rw[←ha] at c1 hn hcap hrow ⊢
 clear ha hsl
 by_cases hz:a=0
 ·subst hz
  rw[words_zero] at c1
  go_enter Tryz.func85,Tryz.ntmps85
  go_wp2
  go_ret
  exact⟨0,rfl,Lib.hid bits_zero,Nat.zero_le _,Below.refl _ _⟩
 ·have hm0:0<(words a).length:=List.length_pos_iff.2 (fun h=>hz (words_eq_nil.1 h))
  obtain⟨bb,ob,rfl,hbb,hcell⟩:=hrow (List.length_pos_iff.1 hm0)
  obtain⟨m,hm⟩:∃ m,(words a).length=m:=⟨_,rfl⟩
  rw[hm] at c1 hn hm0 hcap hcell ⊢
  have d0:=hcell (m - 1) (by omega)
  obtain⟨bt,hbt⟩:∃ bt,bt=(words a)[m - 1]?.getD 0:=⟨_,rfl⟩
  have hbt0:0<bt∧bt<4294967296:=by
   have hne:words a≠[]:=by intro h; rw[h] at hm; simp at hm; omega
   have h1:=wnorm_words a _ _ (List.dropLast_concat_getLast hne).symm
   have h2:(words a)[m - 1]?.getD 0=(words a).getLast hne:=by
    rw[List.getLast_eq_getElem,List.getElem?_eq_getElem (by omega)]; simp[hm]
   rw[hbt,h2]
   exact⟨by omega,wok_words a _ (List.getLast_mem hne)⟩
  rw[←hbt] at d0
  obtain⟨n0,hn0⟩:∃ n0,n0=32*m:=⟨_,rfl⟩
  have e0:32*(m:Int)=(n0:Int):=by omega
  have e1:(0:Int)≤(m:Int) - 1:=by omega
  have e2:(m:Int) - 1<(m:Int):=by omega
  have e3:((m:Int) - 1).toNat=m - 1:=by omega
  have e4:IntKind.i64.wrap ((m:Int) - 1)=(m:Int) - 1:=IntWalk.i64_in _ (by omega)
  have hn1:(0:Int)<(n0:Int):=by omega
  have HM:=Lib.hid (And.intro hm (And.intro hbt hn0))
  clear hcell hm hbt hrow hn0 hz
  go_enter Tryz.func85,Tryz.ntmps85
  go_wp2_with fail
  go_quiet (fail)
  go_wp2_with fail
  go_loop [3,4] (fun u t=>∃ k y:Nat,u=.int .i64 ((n0:Int) - (k:Int))∧t=.int .u32 y∧Hid (y=bt*2 ^ k)∧y<4294967296∧k≤31) (fun u _=>(intOf u).toNat)
  case atStart=>exact⟨0,bt,by simp,rfl,Lib.hid (by simp),hbt0.2,by omega⟩
  case round =>
   obtain⟨k,y,rfl,rfl,hy,hy2,hk⟩:=hrel
   by_cases hlt:y<2147483648
   ·have hk2:k<31:=by
     rcases Nat.lt_or_ge k 31 with h|h
     ·exact h
     ·have h1:(2:Nat) ^ 31≤2 ^ k:=Nat.pow_le_pow_right (by decide) h
      have h2:1*2 ^ k≤bt*2 ^ k:=Nat.mul_le_mul_right _ hbt0.1
      have:=hy.out
      omega
    have hy':Hid (y*2=bt*2 ^ (k+1)):=Lib.hid (by rw[hy.out,Nat.pow_succ,Nat.mul_assoc])
    have hz:(y:Int) / 2147483648=0:=by omega
    have hnk:(k:Int)<(n0:Int):=by have:=HM.out; omega
    go_wp2
    go_round
    case rel=>exact⟨k+1,y*2,by congr 1; omega,by go_num,hy',by omega,by omega⟩
    case measure=>simp[intOf]; omega
   ·have hz:¬(y:Int) / 2147483648=0:=by omega
    have hfin:=Lib.hid (bits_end HM.out.1 hm0 HM.out.2.1 (by rw[←hy.out]; omega) (by rw[←hy.out]; omega) hk)
    clear hlt
    go_wp2
    go_ret
    exact⟨32*m - k,ret_int (by have:=HM.out; omega),hfin,by omega,below_drewN br _⟩
def encU(l:List Nat):Array Value:=(l.map fun x:Nat=>Value.int .u8 (x:Int)).toArray
def BlkB(w:World)(B:Nat)(l:List Nat):Prop:=w.heap[B]?=some (.cells (encU l) 5 (0,0))
theorem BlkB.cell{w:World}{B:Nat}{l:List Nat}(h:BlkB w B l){i:Nat}(hi:i<l.length):w.cell? ⟨B,i,none⟩=some (.int .u8 (l[i]?.getD 0:Nat)):=by
 unfold BlkB at h
 simp[World.cell?,h,encU,hi]
theorem BlkB.frozen{w:World}{B:Nat}{l:List Nat}(h:BlkB w B l)(i:Nat):w.frozen? ⟨B,i,none⟩=false:=by
 unfold BlkB at h
 simp[World.frozen?,h]
theorem BlkB.set{w:World}{B:Nat}{l:List Nat}(h:BlkB w B l)(i x:Nat):BlkB (w.setCell ⟨B,i,none⟩ (.int .u8 (x:Int))) B (l.set i x):=by
 unfold BlkB at *
 simp only[World.setCell,Array.getElem?_modify,if_true,h,Option.map_some]
 simp[encU,List.map_set]
theorem BlkB.lt{w:World}{B:Nat}{l:List Nat}(h:BlkB w B l):B<w.heap.size:=(Array.getElem?_eq_some_iff.1 h).1
theorem BlkB.new(w:World)(l:List Nat):BlkB (w.alloc (.cells (encU l) 5)) w.heap.size l:=heap_alloc_new w _
theorem info_u8:((Tryz.prog).info? 5).map (fun i=>(i.zero,i.size,i.bytes))=some (some (.int .u8 0),1,1):=by kernel_rfl
theorem made_encU(n:Nat):madeCells (Value.int .u8 0).cells (n*1)=encU (List.replicate n 0):=by
 apply Array.ext
 ·simp[madeCells,encU]
 ·intro i h1 h2
  have e:i % 1=0:=Nat.mod_one i
  simp[madeCells,encU,Value.cells,e]
theorem run_mkB(n:Nat)(hn:n<4398046511104)(w:World):(Instr.makeSlice 159 (.int .i64 (n:Int)) (.int .i64 (n:Int))).run Tryz.prog w
  = .ok (.slice (some ⟨w.heap.size,0,none⟩) n n) (w.alloc (.cells (encU (List.replicate n 0)) 5)):=by
 obtain⟨i,hi,hz,hs,hb⟩:=info_parts info_u8
 have:=run_make (P:=Tryz.prog) w 159 5 i (.int .u8 0) Tryz.underlying159 hi hz .i64 .i64 n n (by omega) (Int.le_refl _) (by rw[hb]; omega) (by omega)
 rw[this,hs,Int.toNat_natCast,made_encU]
theorem strN_get{a j:Nat}(h:j<(strN a).size):((strN a)[j].toNat:Nat)=a / 256 ^ ((strN a).size - 1 - j) % 256:=by
 have h1:=leS_get (strN a) ((strN a).size - 1 - j) (by omega)
 rw[leS_strN] at h1
 have h2:(strN a).size - 1 - ((strN a).size - 1 - j)=j:=by omega
 simp only[h2] at h1
 have h3:(strN a).size - 1 - j<(byteLE a).length:=by rw[←size_strN]; omega
 rw[List.getElem?_eq_getElem h3,byteLE_get] at h1
 simpa using h1.symm
set_option maxRecDepth 100000 in
theorem Bytes_any(x:Int)(vx:Value)(A:Nat→Prop)(w:World)(hx:IntP x vx w A)(hn:(words x.natAbs).length<274877906944) :
  Calls Tryz.prog 118 #[vx] w fun e w'=>∃ v,e=.returned v∧BSl w' v (strN x.natAbs)∧Below w.heap.size w w':=by
 have hbl:=BitLen_any x vx A w hx hn
 obtain⟨b,bo,sl,rfl,hb,_,c0,c1,hsl⟩:=hx
 have hw:=hsl.wsl
 obtain⟨p,cap,rfl,hcap,hrow⟩:=hw
 obtain⟨a,ha⟩:∃ a,a=x.natAbs:=⟨_,rfl⟩
 rw[←ha] at c1 hn hcap hrow hbl ⊢
 obtain⟨m,hm⟩:∃ m,(words a).length=m:=⟨_,rfl⟩
 rw[hm] at c1 hn hcap hrow hbl
 have HR:=Lib.hid hrow
 have HB:=Lib.hid hbl
 have HM:=Lib.hid hm
 clear ha hsl hrow hbl hm c0
 go_enter Tryz.func118,Tryz.ntmps118
 go_wp2_with fail
 refine HB.out.mono ?_
 rintro e w1 ⟨N,rfl,hN,hN2,hb1⟩
 obtain⟨n,hn'⟩:∃ n,n=(N+7) / 8:=⟨_,rfl⟩
 have e1:((N:Int)+7) / 8=(n:Int):=by omega
 have hmk:=run_mkB n (by omega)
 have hnb:n<4398046511104:=by omega
 have HN:=Lib.hid hn'
 clear hn'
 go_wp2_with fail
 rw[e1]
 clear e1
 have hlen:Hid ((byteLE a).length=n):=Lib.hid (by rw[bytes_of_bits hN.out,HN.out])
 have c1:=(hb1.cell (p:=⟨b,bo+1,none⟩) hb).trans c1
 have hb':b<w1.heap.size:=Nat.lt_of_lt_of_le hb hb1.size
 go_loopw [5,14] (fun _ i wr=>∃(k:Nat) (cur:List Nat),k≤n∧i=.int .i64 k∧Hid (cur.length=n)∧Hid (∀ j,j<k→cur[n - 1 - j]?=some (a / 256 ^ j % 256))∧BlkB wr w1.heap.size cur∧Below w1.heap.size w1 wr) (fun _ i _=>n - (intOf i).toNat)
 case atStart=>exact⟨0,List.replicate n 0,Nat.zero_le _,rfl,Lib.hid (by simp),Lib.hid (fun j hj=>by omega),BlkB.new _ _,br.alloc (Nat.le_refl _) _⟩
 case round =>
  obtain⟨k,cur,hk,rfl,hlc,hinv,hblk,hB⟩:=hrel
  by_cases hlt:k<n
  ·obtain⟨kq,hkq⟩:∃ kq,kq=k / 4:=⟨_,rfl⟩
   obtain⟨kr,hkr⟩:∃ kr,kr=k % 4:=⟨_,rfl⟩
   obtain⟨kj,hkj⟩:∃ kj,kj=n - 1 - k:=⟨_,rfl⟩
   obtain⟨ks,hks⟩:∃ ks,ks=8*kr:=⟨_,rfl⟩
   have hkM:kq<m:=by
    have h1:=byteLE_le (n:=a) (k:=4*m) (by have:=lt_words a; rw[HM.out] at this; rw[show(256:Nat) ^ (4*m)=4294967296 ^ m by rw[Nat.pow_mul]]; exact this)
    have:=hlen.out
    omega
   obtain⟨bb,ob,rfl,hbb,hcell⟩:=HR.out (by intro h; have:=HM.out; rw[h] at this; simp at this; omega)
   have hbb':bb<w1.heap.size:=Nat.lt_of_lt_of_le hbb hb1.size
   have c2:=(hB.cell (p:=⟨bb,ob+kq,none⟩) hbb').trans ((hb1.cell (p:=⟨bb,ob+kq,none⟩) hbb).trans (hcell kq hkM))
   have c1':=(hB.cell (p:=⟨b,bo+1,none⟩) hb').trans c1
   have c3:=hblk.cell (i:=kj) (by have:=hlc.out; omega)
   have f3:=hblk.frozen kj
   obtain⟨y,hy⟩:∃ y,y=wat (words a) kq:=⟨_,rfl⟩
   rw[show(words a)[kq]?.getD 0=y from hy.symm] at c2
   have hy32:y<4294967296:=by rw[hy]; exact wat_lt (wok_words a) kq
   obtain⟨z,hz⟩:∃ z,z=a / 256 ^ k % 256:=⟨_,rfl⟩
   have hyz:y / 2 ^ ks % 256=z:=by rw[hy,wat_words,hks,byte_of_word a kq kr (by omega),hz,show 4*kq+kr=k by omega]
   have q0:(y:Int) / 2 ^ ks % 256=(z:Int):=by rw[←hyz]; simp
   have q1:(k:Int) / 4=(kq:Int):=by omega
   have q2:(k:Int) % 4=(kr:Int):=by omega
   have q3:(n:Int) - 1 - (k:Int)=(kj:Int):=by omega
   have q7:(kr:Int)*8=(ks:Int):=by omega
   have q5:(kj:Int)<(n:Int):=by omega
   have q6:(kq:Int)<(m:Int):=by omega
   have HK:=Lib.hid (And.intro hkj hz)
   clear hkq hkr hkj hks hyz hy hz hcell c1
   go_wp2_with fail
   go_roundw
   case rel =>
    refine⟨k+1,cur.set kj z,by omega,by go_num,Lib.hid (by have:=hlc.out; simpa using this),Lib.hid (fun j hj=>?_),hblk.set kj z,hB.setCell (p:=⟨w1.heap.size,kj,none⟩) (Nat.le_refl _) _⟩
    have h1:=HK.out.1
    by_cases hjk:j=k
    ·subst hjk
     rw[←h1,←HK.out.2,List.getElem?_set_self (by have:=hlc.out; omega)]
    ·rw[List.getElem?_set_ne (by omega)]; exact hinv.out j (by omega)
   case measure=>simp[intOf]; omega
  ·obtain rfl:n=k:=by omega
   clear HR c1
   go_wp2
   go_ret
   have hsz:(strN a).size=n:=by rw[size_strN]; exact hlen.out
   refine⟨.slice (some ⟨w1.heap.size,0,none⟩) n n,rfl,⟨w1.heap.size,0,n,by rw[hsz],hblk.lt,fun i hi=>?_⟩,hb1.trans (hB.mono hb1.size)⟩
   rw[Nat.zero_add,hblk.cell (i:=i) (by have:=hlc.out; omega)]
   have h1:=hinv.out (n - 1 - i) (by omega)
   rw[show n - 1 - (n - 1 - i)=i by omega] at h1
   have h2:=strN_get hi
   simp only[hsz] at h2
   rw[h1,h2]; rfl
end Go.Proofs.YthklnbaddobieaaGreat
namespace Go.Proofs.YthklnbaddobieaaGreat
open Go.RowKit Tr
theorem natAbs_shl(x:Int)(N:Nat):(x*2 ^ N).natAbs=x.natAbs*2 ^ N:=by
 rw[Int.natAbs_mul]; congr 1
theorem neg_shl(x:Int)(N:Nat):decide (x*2 ^ N<0)=(decide (x<0) && decide (wv (words (x*2 ^ N).natAbs)≠0)):=by
 rw[wv_words,natAbs_shl]
 have hp:(0:Int)<2 ^ N:=Int.pow_pos (by decide)
 have hn:0<2 ^ N:=Nat.two_pow_pos N
 by_cases h:x<0
 ·have h1:x*2 ^ N<0:=Int.mul_neg_of_neg_of_pos h hp
  have h2:x.natAbs*2 ^ N≠0:=Nat.ne_of_gt (Nat.mul_pos (by omega) hn)
  simp[h,h1]; omega
 ·have h1:¬x*2 ^ N<0:=Int.not_lt.2 (Int.mul_nonneg (by omega) (Int.le_of_lt hp))
  simp[h,h1]
theorem Lsh_any(m o:Nat)(C:Array Value)(T:TypeId)(x:Int)(vx:Value)(N:Nat)(A:Nat→Prop)(w:World)(hm:w.heap[m]?=some (.cells C T (0,0)))(ho:o+1<C.size)(hC:NoW (.cells C T (0,0)))(hx:IntP x vx w A)(hn:(words x.natAbs).length<274877906944)(hN:N<1099511627776)(hl:(words (x.natAbs*2 ^ N)).length<1099511627776) :
  Calls Tryz.prog 86 #[.pointer (some ⟨m,o,none⟩),vx,.int .u64 N] w fun e w'=>e=.returned (.pointer (some ⟨m,o,none⟩))∧Put m o C T (x*2 ^ N) w w':=by
 obtain⟨b,bo,sl,rfl,hb,_,c0,c1,hsl⟩:=hx
 have hw:=hsl.wsl
 have hmlt:m<w.heap.size:=(Array.getElem?_eq_some_iff.1 hm).1
 have eN:IntKind.i64.wrap (N:Int)=(N:Int):=by rw[IntKind.wrap_i64]; omega
 have hleft:=fun(w1:World) (h1:Below w.heap.size w w1)=>left_any (words x.natAbs) N sl w1 (wok_words _) (hw.below h1) (by omega) hN
 rw[wv_words] at hleft
 have HL:=Lib.hid hleft
 have HN:=Lib.hid (And.intro hl eN)
 clear hleft hl eN
 go_enter Tryz.func86,Tryz.ntmps86
 go_wp2_with fail
 refine wp_region_inv [(.lit,[]),(.lit,[]),(.lit,[]),(.lit,[]),(.lit,[]),(.lit,[]),(.lit,[]),(.lit,[]),(.lit,[]),(.lit,[]),(.lit,[]),(.val,[])] (pickF [(11,fun v w A=>WSlA A w v (words (x.natAbs*2 ^ N)))]) (by kernel_rfl) ?_ ?_ (by simp) (by simp) (by kernel_rfl)
 ·exact keeps_pick (by simp[keeps_wsla])
 ·refine⟨_,fun f w1 h1=>by go_simp; rfl,?_⟩
  refine⟨_,fun f w1 h1=>by go_simp; rfl,?_⟩
  refine⟨_,fun f w1 h1=>by go_simp; rfl,?_⟩
  refine⟨_,fun f w1 h1=>by go_simp; rfl,?_⟩
  refine⟨_,fun f w1 h1=>by have:=ct h1 hb c0; go_simp; rfl,?_⟩
  refine⟨_,fun f w1 h1=>by go_simp; rfl,?_⟩
  refine⟨_,fun f w1 h1=>by go_simp; rfl,?_⟩
  refine⟨_,fun f w1 h1=>by go_simp; rfl,?_⟩
  refine⟨_,fun f w1 h1=>by have:=ct h1 hb c1; go_simp; rfl,?_⟩
  refine⟨_,fun f w1 h1=>by go_simp; rfl,?_⟩
  refine⟨.int .i64 N,fun f w1 h1=>by have:=HN.out.2; go_simp,?_⟩
  simp only[Act.put,nrA,nrB,nrC,Nat.reduceAdd]
  refine⟨fun f w1 A1 h1 hA hN' hd K hK=>?_,?_⟩
  ·go_simp
   refine(HL.out w1 (br.drew.trans h1)).mono ?_
   rintro e w' ⟨v',rfl,hv,hb'⟩
   exact hK v' w' hb' (hv.avoids (hA.below hb'))
  ·intro f w1 h1 hF
   have hv:WSlA NoA w1 (f 11) (words (x.natAbs*2 ^ N)):=hF.2
   have hv:=hv.wsl
   clear hF
   simp only[Act.put,nrA,nrB,nrC]
   generalize f 11=v9 at *
   have h1':Below w.heap.size w w1:=br.drew.trans h1
   have his:=is_put m o C T (decide (x<0)) (words (x.natAbs*2 ^ N)) v9 w1 (x*2 ^ N) ((h1.block m hmlt).trans hm) ho hC (wok_words _) hv HN.out.1 (by rw[wv_words]; exact natAbs_shl x N) (by rw[←natAbs_shl]; exact neg_shl x N)
   have HI:=Lib.hid his
   clear his hm hC c0 c1
   go_wp2_with (go_at_call 150; refine HI.out.mono ?_; rintro e w' ⟨rfl,hp⟩)
   go_ret
   exact⟨rfl,hp.below h1'⟩
theorem nonneg_shr(n N:Nat):decide (((n / 2 ^ N:Nat):Int)<0)=(false && decide (wv (words (n / 2 ^ N))≠0)):=by
 have:=Int.natCast_nonneg (n / 2 ^ N)
 simp only[Bool.false_and,decide_eq_false_iff_not]; omega
theorem Rsh_any(m o:Nat)(C:Array Value)(T:TypeId)(n:Nat)(vx:Value)(N:Nat)(A:Nat→Prop)(w:World)(hm:w.heap[m]?=some (.cells C T (0,0)))(ho:o+1<C.size)(hC:NoW (.cells C T (0,0)))(hx:IntP (n:Int) vx w A)(hn:(words n).length<274877906944)(hN:N<1099511627776) :
  Calls Tryz.prog 88 #[.pointer (some ⟨m,o,none⟩),vx,.int .u64 N] w fun e w'=>e=.returned (.pointer (some ⟨m,o,none⟩))∧Put m o C T ((n / 2 ^ N:Nat):Int) w w':=by
 obtain⟨b,bo,sl,rfl,hb,_,c0,c1,hsl⟩:=hx
 rw[show((n:Int)).natAbs=n from rfl] at hsl
 rw[show decide ((n:Int)<0)=false by simp] at c0
 have hw:=hsl.wsl
 have hmlt:m<w.heap.size:=(Array.getElem?_eq_some_iff.1 hm).1
 have eN:IntKind.i64.wrap (N:Int)=(N:Int):=by rw[IntKind.wrap_i64]; omega
 have hright:=right_any (words n) N sl w (wok_words _) hw (by omega) hN
 rw[wv_words] at hright
 have hwl:(words (n / 2 ^ N)).length<1099511627776:=by
  have h1:=lt_words n
  have h2:n / 2 ^ N<4294967296 ^ (words n).length:=Nat.lt_of_le_of_lt (Nat.div_le_self _ _) h1
  have:=words_length_le h2; omega
 have his:=fun(w1:World) (h1:Below w.heap.size w w1) v (hv:WSl w1 v (words (n / 2 ^ N)))=>is_put m o C T false (words (n / 2 ^ N)) v w1 ((n / 2 ^ N:Nat):Int) ((h1.block m hmlt).trans hm) ho hC (wok_words _) hv hwl (by rw[wv_words]; rfl) (nonneg_shr n N)
 have hcell:=fun(w1:World) (h1:Below w.heap.size w w1)=>(h1.cell (p:=⟨b,bo,none⟩) hb).trans c0
 have HR:=Lib.hid hright
 have HI:=Lib.hid his
 have HC:=Lib.hid hcell
 clear hright his hm hC hw hsl hcell
 go_enter Tryz.func88,Tryz.ntmps88
 go_wp2_with (go_at_call 153; refine HR.out.mono ?_; rintro e w1 ⟨v7,rfl,hv,hb1⟩; have d0:=HC.out w1 hb1; have d1:∀ k,(w1.drewN k).cell? ⟨b,bo,none⟩=some (.bool false):=fun _=>d0; have HV:=Lib.hid hv; clear hv)
 have hbn:∀ k,Below w.heap.size w (w1.drewN k):=fun k=>hb1.trans ⟨rfl,rfl,rfl,Nat.le_refl _,fun _ _=>rfl⟩
 have hX:=fun k=>HI.out (w1.drewN k) (hbn k) v7 HV.out
 have HX:=Lib.hid hX
 clear hX
 go_quiet (fail)
 go_wp2_with (go_at_call 150; refine(HX.out _).mono ?_; rintro e w' ⟨rfl,hp⟩)
 go_ret
 exact⟨rfl,hp.below (hbn _)⟩
end Go.Proofs.YthklnbaddobieaaGreat
namespace Tr
end Tr
namespace Go.Proofs.YthklnbaddobieaaGreat
open Go.RowKit Tr
def OwnI(B:Nat)(z:Int)(w:World):Prop:=∃ C,w.heap[B]?=some (.cells C 131 (0,0))∧0+1<C.size∧NoW (.cells C 131 (0,0))∧IntP z (.pointer (some ⟨B,0,none⟩)) w NoA
theorem Put.own{B:Nat}{C:Array Value}{z:Int}{w w':World}(h:Put B 0 C 131 z w w')(ho:0+1<C.size)(hC:NoW (.cells C 131 (0,0))):OwnI B z w':=by
 have h1:=h.intP ho (A:=NoA) (fun _ h=>h.elim)
 obtain⟨h2,sl,h3,h4⟩:=h
 obtain⟨p,cap,rfl,_,_⟩:=id h4
 refine⟨_,h3,by simpa using ho,?_,h1.noA⟩
 intro cs T' fr e i k x hx
 cases e
 rw[Array.getElem?_setIfInBounds] at hx
 split at hx
 ·first|(split at hx<;>simp at hx; done)|(simp at hx; done)
 ·rw[Array.getElem?_setIfInBounds] at hx
  split at hx
  ·first|(split at hx<;>simp at hx; done)|(simp at hx; done)
  ·exact hC C _ (0,0) rfl i k x hx
end Go.Proofs.YthklnbaddobieaaGreat
namespace Go.Proofs.YthklnbaddobieaaGreat
open Go.RowKit Tr
theorem divInt_parts{a b:Int}(hb:b≠0)(g:Int)(hg:g=if b<0 then -(Nat.gcd a.natAbs b.natAbs:Int) else(Nat.gcd a.natAbs b.natAbs:Int)):(Rat.divInt a b).num=a.tdiv g∧((Rat.divInt a b).den:Int)=b.tdiv g:=by
 have hgp:0<Nat.gcd a.natAbs b.natAbs:=Nat.gcd_pos_of_pos_right _ (by omega)
 have hpos:∀(n:Int) (d:Nat),d≠0→(Rat.divInt n d).num=n.tdiv (Nat.gcd n.natAbs d:Nat)∧((Rat.divInt n d).den:Int)=(d:Int).tdiv (Nat.gcd n.natAbs d:Nat):=by
  intro n d hd
  rw[Rat.divInt_ofNat,←Rat.normalize_eq_mkRat hd,Rat.normalize_eq]
  refine⟨?_,?_⟩
  ·show n / ((n.natAbs.gcd d:Nat):Int)=_
   rw[Int.tdiv_eq_ediv_of_dvd]
   exact Int.ofNat_dvd_left.2 (Nat.gcd_dvd_left _ _)
  ·show((d / n.natAbs.gcd d:Nat):Int)=_
   rw[Int.ofNat_tdiv]
 by_cases h:b<0
 ·rw[if_pos h] at hg
  have e:b=-((b.natAbs:Nat):Int):=by omega
  have h1:=hpos (-a) b.natAbs (by omega)
  have e2:Rat.divInt a b=Rat.divInt (-a) (b.natAbs:Nat):=by
   conv=>lhs; rw[e]
   rw[Rat.divInt_neg']
  rw[Int.natAbs_neg] at h1
  rw[e2,h1.1,h1.2,hg]
  refine⟨?_,?_⟩
  ·rw[Int.neg_tdiv,Int.tdiv_neg]
  ·conv=>rhs; rw[e]
   rw[Int.neg_tdiv_neg]
   simp
 ·rw[if_neg h] at hg
  have e:b=((b.natAbs:Nat):Int):=by omega
  have h1:=hpos a b.natAbs (by omega)
  have e2:Rat.divInt a b=Rat.divInt a (b.natAbs:Nat):=by rw[←e]
  rw[e2,h1.1,h1.2,hg]
  refine⟨rfl,?_⟩
  rw[←e]
def PutR(m:Nat)(q:Rat)(w w':World):Prop:=Mod m w w'∧∃ s1 s2,w'.heap[m]?=some (.cells #[.bool (decide (q.num<0)),s1,.bool false,s2] 133 (0,0))∧WSl w' s1 (words q.num.natAbs)∧WSl w' s2 (words q.den)
theorem put_heap{m o:Nat}{C:Array Value}{T:TypeId}{z:Int}{w w':World}(h:Put m o C T z w w'):∃ C',w'.heap[m]?=some (.cells C' T (0,0))∧C'.size=C.size∧(NoW (.cells C T (0,0))→NoW (.cells C' T (0,0))):=by
 obtain⟨_,sl,h2,p,cap,rfl,_⟩:=h
 refine⟨_,h2,by simp,fun hC=>?_⟩
 intro cs T' fr e i k x hx
 cases e
 rw[Array.getElem?_setIfInBounds] at hx
 split at hx
 ·split at hx<;>simp at hx
 ·rw[Array.getElem?_setIfInBounds] at hx
  split at hx
  ·split at hx<;>simp at hx
  ·exact hC C T (0,0) rfl i k x hx
theorem length_le_of{a b k:Nat}(h:a≤b)(hb:(words b).length<k):(words a).length<k:=Nat.lt_of_le_of_lt (words_length_le (Nat.lt_of_le_of_lt h (lt_words b))) hb
theorem IntP.cells{z:Int}{b o:Nat}{w:World}{A:Nat→Prop}(h:IntP z (.pointer (some ⟨b,o,none⟩)) w A):∃ p n c,b<w.heap.size∧w.cell? ⟨b,o,none⟩=some (.bool (decide (z<0)))∧w.cell? ⟨b,o+1,none⟩=some (.slice p n c)∧WSl w (.slice p n c) (words z.natAbs):=by
 obtain⟨b',o',sl,e,h1,_,h2,h3,h4⟩:=h
 cases e
 have h5:=h4.wsl
 obtain⟨p,c,rfl,_⟩:=h4
 exact⟨p,_,c,h1,h2,h3,h5⟩
theorem setCell_heap{w:World}{m i:Nat}{v:Value}{C:Array Value}{T:TypeId}{fr:Nat×Nat}(h:w.heap[m]?=some (.cells C T fr)):(w.setCell ⟨m,i,none⟩ v).heap[m]?=some (.cells (C.setIfInBounds i v) T fr):=by
 simp only[World.setCell,Array.getElem?_modify,if_true,h,Option.map_some]
 rfl
set_option maxRecDepth 100000 in
theorem SetFrac_any(m:Nat)(C:Array Value)(a b:Int)(hb0:b≠0)(va vb:Value)(A:Nat→Prop)(w:World)(hm:w.heap[m]?=some (.cells C 133 (0,0)))(hC4:C.size=4)(hC:NoW (.cells C 133 (0,0)))(ha:IntP a va w A)(hb:IntP b vb w A)(hna:(words a.natAbs).length<274877906944)(hnb:(words b.natAbs).length<274877906944) :
  Calls Tryz.prog 80 #[.pointer (some ⟨m,0,none⟩),va,vb] w fun e w'=>e=.returned (.pointer (some ⟨m,0,none⟩))∧PutR m (Rat.divInt a b) w w':=by
 have hmlt:m<w.heap.size:=(Array.getElem?_eq_some_iff.1 hm).1
 obtain⟨gn,hgn⟩:∃ gn,gn=Nat.gcd a.natAbs b.natAbs:=⟨_,rfl⟩
 have hgp:0<gn:=by rw[hgn]; exact Nat.gcd_pos_of_pos_right _ (by omega)
 have hgle:gn≤b.natAbs:=by rw[hgn]; exact Nat.le_of_dvd (by omega) (Nat.gcd_dvd_right _ _)
 have hlg:=length_le_of hgle hnb
 -- the divisor
 let w1:=w.alloc (.cells #[.bool false,.slice none 0 0] 131)
 have hw1:Below w.heap.size w w1:=br.alloc (Nat.le_refl _) _
 have hG:=GCD_any w.heap.size 0 _ _ a b va vb (.pointer none) (.pointer none) A w1 (heap_alloc_new w (.cells #[.bool false,.slice none 0 0] 131)) (by decide) noW_zInt (ha.below hw1) (hb.below hw1) hna hnb
 rw[←hgn] at hG
 have HG:=Lib.hid hG
 have HX:=Lib.hid (And.intro ha (And.intro hb hm))
 obtain⟨bb,ob,slb,rfl,hbb,_,d0,_,_⟩:=hb
 have d0':=(hw1.cell (p:=⟨bb,ob,none⟩) hbb).trans d0
 have hparts:=divInt_parts (a:=a) hb0 _ (by rw[←hgn])
 have HP:=Lib.hid hparts
 clear hG ha hm hparts d0
 by_cases hneg:b<0
 ·have e0:decide (b<0)=true:=by simpa using hneg
  rw[e0] at d0'
  clear e0
  go_enter Tryz.func80,Tryz.ntmps80
  go_wp2_with fail
  refine HG.out.mono ?_
  rintro e w2 ⟨rfl,hp⟩
  have hg2:IntP (gn:Int) (.pointer (some ⟨w.heap.size,0,none⟩)) w2 NoA:=(hp.intP (by decide) (rcv_noA _)).noA
  obtain⟨C2,hm2,hs2,hnw⟩:=put_heap hp
  have d1:=(World.cell?_of_block (w:=w1) (hp.1.block bb (by have:=hw1.size; omega) (by omega))).trans d0'
  have hN:=Neg_any w.heap.size 0 C2 _ (gn:Int) _ NoA w2 hm2 (by rw[hs2]; decide) (hnw noW_zInt) hg2 hlg
  have HN:=Lib.hid hN
  clear hN d0'
  go_wp2_with fail
  refine HN.out.mono ?_
  rintro e w3 ⟨rfl,hp3⟩
  obtain⟨gz,hgzd⟩:∃ gz:Int,gz=-(gn:Int):=⟨_,rfl⟩
  rw[←hgzd] at hp3
  obtain⟨W,hW⟩:∃ W,W=w3:=⟨_,rfl⟩
  rw[←hW]
  have hgz:gz≠0:=by omega
  have hBW:Below w.heap.size w W:=by rw[hW]; exact hw1.trans ((hp.1.trans hp3.1).below (Nat.le_refl _) hw1.size)
  have hig:IntP gz (.pointer (some ⟨w.heap.size,0,none⟩)) W NoA:=by rw[hW]; exact(hp3.intP (by rw[hs2]; decide) (rcv_noA _)).noA
  have hP1:=HP.out
  rw[if_pos hneg,←hgzd] at hP1
  have HP1:=Lib.hid hP1
  have ha1:IntP a va W A:=HX.out.1.below hBW
  have hb1:IntP b (.pointer (some ⟨bb,ob,none⟩)) W A:=HX.out.2.1.below hBW
  have hal:Below W.heap.size W (W.alloc (.cells #[.bool false,.slice none 0 0] 131)):=br.alloc (Nat.le_refl _) _
  have hQ1:=Quo_any W.heap.size 0 _ _ a gz hgz va _ NoA _ (heap_alloc_new W (.cells #[.bool false,.slice none 0 0] 131)) (by decide) noW_zInt (ha1.below hal).noA ((hig.below hal)) hna
  have HQ1:=Lib.hid hQ1
  clear hW hQ1 hP1 hal
  go_wp2_with fail
  refine HQ1.out.mono ?_
  rintro e W2 ⟨rfl,hp1⟩
  have hn1:NewI (a.tdiv gz) (.pointer (some ⟨W.heap.size,0,none⟩)) W W2:=hp1.new (by decide)
  have hal:Below W2.heap.size W2 (W2.alloc (.cells #[.bool false,.slice none 0 0] 131)):=br.alloc (Nat.le_refl _) _
  have hQ2:=Quo_any W2.heap.size 0 _ _ b gz hgz _ _ NoA _ (heap_alloc_new W2 (.cells #[.bool false,.slice none 0 0] 131)) (by decide) noW_zInt ((hb1.below hn1.1).below hal).noA (((hig.below hn1.1).below hal)) hnb
  have HQ2:=Lib.hid hQ2
  clear hQ2
  go_wp2_with fail
  refine HQ2.out.mono ?_
  rintro e W3 ⟨rfl,hp2⟩
  have hn2:NewI (b.tdiv gz) (.pointer (some ⟨W2.heap.size,0,none⟩)) W2 W3:=hp2.new (by decide)
  have hb3:Below w.heap.size w W3:=hBW.trans ((hn1.1.trans (hn2.1.mono hn1.1.size)).mono hBW.size)
  obtain⟨p1,n1,c1,b1,e1,e2,e3⟩:=((hn1.2 NoA (rcv_noA _)).below hn2.1).cells
  obtain⟨p2,n2,c2,b2,e4,e5,e6⟩:=(hn2.2 NoA (rcv_noA _)).cells
  have hm3:=(hb3.block m hmlt).trans HX.out.2.2
  have hq:Hid (decide ((Rat.divInt a b).num<0)=decide (a.tdiv gz<0)∧decide (b.tdiv gz<0)=false∧(Rat.divInt a b).num.natAbs=(a.tdiv gz).natAbs∧(Rat.divInt a b).den=(b.tdiv gz).natAbs):=Lib.hid (by
   obtain⟨h1,h2⟩:=HP1.out
   rw[h1,←h2]; simp)
  have hne1:W.heap.size≠m:=by have:=hBW.size; omega
  have hne2:W2.heap.size≠m:=by have:=hBW.size; have:=hn1.1.size; omega
  rw[hq.out.2.1] at e4
  obtain⟨nb,hnb'⟩:∃ nb,nb=decide (a.tdiv gz<0):=⟨_,rfl⟩
  rw[←hnb'] at e1 hq
  clear hnb' HQ1 HQ2 hp1 hp2 hn1 hn2 hig ha1 hb1
  have HW:=Lib.hid (And.intro hb3 (And.intro hm3 (And.intro e3 e6)))
  obtain⟨x0,x1,x2,x3,hCe⟩:∃ x0 x1 x2 x3,C=#[x0,x1,x2,x3]:=by
   obtain⟨l⟩:=C
   match l,hC4 with
   | [x0,x1,x2,x3],_=>exact⟨x0,x1,x2,x3,rfl⟩
  rw[hCe] at hm3
  have f0:W3.cell? ⟨m,0,none⟩=some x0∧W3.cell? ⟨m,1,none⟩=some x1∧W3.cell? ⟨m,2,none⟩=some x2∧W3.cell? ⟨m,3,none⟩=some x3:=by simp[World.cell?,hm3]
  obtain⟨f0,f1,f2,f3⟩:=f0
  have g0:∀ i,W3.frozen? ⟨m,i,none⟩=false:=fun i=>by simp[World.frozen?,hm3]
  have g1:=g0 0
  have g2:=g0 1
  have g3:=g0 2
  have g4:=g0 3
  clear hm3 g0 e3 e6 hb3
  go_wp2_with fail
  go_region
  go_wp2
  go_ret
  have hm5:Mod m W3 ((((W3.setCell ⟨m,0,none⟩ (.bool nb)).setCell ⟨m,1,none⟩ (.slice p1 n1 c1)).setCell ⟨m,2,none⟩ (.bool false)).setCell ⟨m,3,none⟩ (.slice p2 n2 c2)).drew:=Mod.drewN (((((Mod.refl m W3).setCell 0 _).setCell 1 _).setCell 2 _).setCell 3 _) 1
  refine⟨rfl,(Mod.of_below HW.out.1).trans hm5,.slice p1 n1 c1,.slice p2 n2 c2,?_,?_,?_⟩
  ·rw[hq.out.1]
   have:=HW.out.2.1
   rw[hCe] at this
   exact setCell_heap (i:=3) (setCell_heap (i:=2) (setCell_heap (i:=1) (setCell_heap (i:=0) this)))
  ·rw[hq.out.2.2.1]; exact WSl.mod HW.out.2.2.1 hm5 HW.out.2.1 hC
  ·rw[hq.out.2.2.2]; exact WSl.mod HW.out.2.2.2 hm5 HW.out.2.1 hC
 ·have e0:decide (b<0)=false:=by simpa using hneg
  rw[e0] at d0'
  clear e0
  go_enter Tryz.func80,Tryz.ntmps80
  go_wp2_with fail
  refine HG.out.mono ?_
  rintro e w2 ⟨rfl,hp⟩
  have d1:=(World.cell?_of_block (w:=w1) (hp.1.block bb (by have:=hw1.size; omega) (by omega))).trans d0'
  clear d0'
  obtain⟨gz,hgzd⟩:∃ gz:Int,gz=(gn:Int):=⟨_,rfl⟩
  rw[←hgzd] at hp
  obtain⟨W,hW⟩:∃ W,W=w2:=⟨_,rfl⟩
  rw[←hW]
  have d1:W.cell? ⟨bb,ob,none⟩=some (.bool false):=by rw[hW]; exact d1
  have hgz:gz≠0:=by omega
  have hBW:Below w.heap.size w W:=by rw[hW]; exact hw1.trans (hp.1.below (Nat.le_refl _) hw1.size)
  have hig:IntP gz (.pointer (some ⟨w.heap.size,0,none⟩)) W NoA:=by rw[hW]; exact(hp.intP (by decide) (rcv_noA _)).noA
  have hP1:=HP.out
  rw[if_neg (show ¬b<0 by omega),←hgzd] at hP1
  have HP1:=Lib.hid hP1
  have ha1:IntP a va W A:=HX.out.1.below hBW
  have hb1:IntP b (.pointer (some ⟨bb,ob,none⟩)) W A:=HX.out.2.1.below hBW
  have hal:Below W.heap.size W (W.alloc (.cells #[.bool false,.slice none 0 0] 131)):=br.alloc (Nat.le_refl _) _
  have hQ1:=Quo_any W.heap.size 0 _ _ a gz hgz va _ NoA _ (heap_alloc_new W (.cells #[.bool false,.slice none 0 0] 131)) (by decide) noW_zInt (ha1.below hal).noA ((hig.below hal)) hna
  have HQ1:=Lib.hid hQ1
  clear hW hQ1 hP1 hal
  go_wp2_with fail
  refine HQ1.out.mono ?_
  rintro e W2 ⟨rfl,hp1⟩
  have hn1:NewI (a.tdiv gz) (.pointer (some ⟨W.heap.size,0,none⟩)) W W2:=hp1.new (by decide)
  have hal:Below W2.heap.size W2 (W2.alloc (.cells #[.bool false,.slice none 0 0] 131)):=br.alloc (Nat.le_refl _) _
  have hQ2:=Quo_any W2.heap.size 0 _ _ b gz hgz _ _ NoA _ (heap_alloc_new W2 (.cells #[.bool false,.slice none 0 0] 131)) (by decide) noW_zInt ((hb1.below hn1.1).below hal).noA (((hig.below hn1.1).below hal)) hnb
  have HQ2:=Lib.hid hQ2
  clear hQ2
  go_wp2_with fail
  refine HQ2.out.mono ?_
  rintro e W3 ⟨rfl,hp2⟩
  have hn2:NewI (b.tdiv gz) (.pointer (some ⟨W2.heap.size,0,none⟩)) W2 W3:=hp2.new (by decide)
  have hb3:Below w.heap.size w W3:=hBW.trans ((hn1.1.trans (hn2.1.mono hn1.1.size)).mono hBW.size)
  obtain⟨p1,n1,c1,b1,e1,e2,e3⟩:=((hn1.2 NoA (rcv_noA _)).below hn2.1).cells
  obtain⟨p2,n2,c2,b2,e4,e5,e6⟩:=(hn2.2 NoA (rcv_noA _)).cells
  have hm3:=(hb3.block m hmlt).trans HX.out.2.2
  have hq:Hid (decide ((Rat.divInt a b).num<0)=decide (a.tdiv gz<0)∧decide (b.tdiv gz<0)=false∧(Rat.divInt a b).num.natAbs=(a.tdiv gz).natAbs∧(Rat.divInt a b).den=(b.tdiv gz).natAbs):=Lib.hid (by
   obtain⟨h1,h2⟩:=HP1.out
   rw[h1,←h2]; simp)
  have hne1:W.heap.size≠m:=by have:=hBW.size; omega
  have hne2:W2.heap.size≠m:=by have:=hBW.size; have:=hn1.1.size; omega
  rw[hq.out.2.1] at e4
  obtain⟨nb,hnb'⟩:∃ nb,nb=decide (a.tdiv gz<0):=⟨_,rfl⟩
  rw[←hnb'] at e1 hq
  clear hnb' HQ1 HQ2 hp1 hp2 hn1 hn2 hig ha1 hb1
  have HW:=Lib.hid (And.intro hb3 (And.intro hm3 (And.intro e3 e6)))
  obtain⟨x0,x1,x2,x3,hCe⟩:∃ x0 x1 x2 x3,C=#[x0,x1,x2,x3]:=by
   obtain⟨l⟩:=C
   match l,hC4 with
   | [x0,x1,x2,x3],_=>exact⟨x0,x1,x2,x3,rfl⟩
  rw[hCe] at hm3
  have f0:W3.cell? ⟨m,0,none⟩=some x0∧W3.cell? ⟨m,1,none⟩=some x1∧W3.cell? ⟨m,2,none⟩=some x2∧W3.cell? ⟨m,3,none⟩=some x3:=by simp[World.cell?,hm3]
  obtain⟨f0,f1,f2,f3⟩:=f0
  have g0:∀ i,W3.frozen? ⟨m,i,none⟩=false:=fun i=>by simp[World.frozen?,hm3]
  have g1:=g0 0
  have g2:=g0 1
  have g3:=g0 2
  have g4:=g0 3
  clear hm3 g0 e3 e6 hb3
  go_wp2_with fail
  go_region
  go_wp2
  go_ret
  have hm5:Mod m W3 ((((W3.setCell ⟨m,0,none⟩ (.bool nb)).setCell ⟨m,1,none⟩ (.slice p1 n1 c1)).setCell ⟨m,2,none⟩ (.bool false)).setCell ⟨m,3,none⟩ (.slice p2 n2 c2)).drew:=Mod.drewN (((((Mod.refl m W3).setCell 0 _).setCell 1 _).setCell 2 _).setCell 3 _) 1
  refine⟨rfl,(Mod.of_below HW.out.1).trans hm5,.slice p1 n1 c1,.slice p2 n2 c2,?_,?_,?_⟩
  ·rw[hq.out.1]
   have:=HW.out.2.1
   rw[hCe] at this
   exact setCell_heap (i:=3) (setCell_heap (i:=2) (setCell_heap (i:=1) (setCell_heap (i:=0) this)))
  ·rw[hq.out.2.2.1]; exact WSl.mod HW.out.2.2.1 hm5 HW.out.2.1 hC
  ·rw[hq.out.2.2.2]; exact WSl.mod HW.out.2.2.2 hm5 HW.out.2.1 hC
end Go.Proofs.YthklnbaddobieaaGreat
namespace Tr
def RL(q:Rat)(k:Nat):Prop:=(words q.num.natAbs).length≤k∧(words q.den).length≤k
theorem RL.mono{q:Rat}{k l:Nat}(h:RL q k)(hl:k≤l):RL q l:=⟨Nat.le_trans h.1 hl,Nat.le_trans h.2 hl⟩
theorem wl_mul{a b k l:Nat}(ha:(words a).length≤k)(hb:(words b).length≤l):(words (a*b)).length≤k+l:=by
 refine words_length_le ?_
 have h1:=Nat.lt_of_lt_of_le (lt_words a) (Nat.pow_le_pow_right (by decide) ha)
 have h2:=Nat.lt_of_lt_of_le (lt_words b) (Nat.pow_le_pow_right (by decide) hb)
 rw[Nat.pow_add]
 exact Nat.mul_lt_mul'' h1 h2
theorem wl_add{a b k:Nat}(ha:(words a).length≤k)(hb:(words b).length≤k):(words (a+b)).length≤k+1:=by
 refine words_length_le ?_
 have h1:=Nat.lt_of_lt_of_le (lt_words a) (Nat.pow_le_pow_right (by decide) ha)
 have h2:=Nat.lt_of_lt_of_le (lt_words b) (Nat.pow_le_pow_right (by decide) hb)
 rw[Nat.pow_succ]
 omega
theorem wl_mono{a b k:Nat}(h:a≤b)(hb:(words b).length≤k):(words a).length≤k:=Nat.le_trans (words_length_le (Nat.lt_of_le_of_lt h (lt_words b))) hb
theorem RL_divInt{a b:Int}(hb:b≠0){k:Nat}(h1:(words a.natAbs).length≤k)(h2:(words b.natAbs).length≤k):RL (Rat.divInt a b) k:=by
 have:=Go.Proofs.YthklnbaddobieaaGreat.divInt_parts (a:=a) hb _ rfl
 refine⟨wl_mono ?_ h1,wl_mono ?_ h2⟩
 ·rw[this.1,Int.natAbs_tdiv]; exact Nat.div_le_self _ _
 ·have h3:(Rat.divInt a b).den=(b.tdiv (if b<0 then -((a.natAbs.gcd b.natAbs:Nat):Int) else((a.natAbs.gcd b.natAbs:Nat):Int))).natAbs:=by rw[←this.2]; simp
  rw[h3,Int.natAbs_tdiv]; exact Nat.div_le_self _ _
theorem den_ne{q:Rat}:(q.den:Int)≠0:=by have:=q.den_nz; omega
theorem sub_divInt(x y:Rat):Rat.divInt (x.num*(y.den:Int) - y.num*(x.den:Int)) ((x.den:Int)*(y.den:Int))=x - y:=by
 rw[Int.sub_eq_add_neg,←Int.neg_mul,←Rat.divInt_add_divInt _ _ den_ne den_ne,Rat.num_divInt_den,←Rat.neg_divInt,Rat.num_divInt_den,Rat.sub_eq_add_neg]
end Tr
namespace Go.Proofs.YthklnbaddobieaaGreat
open Go.RowKit Tr
theorem PutR.ratP{m:Nat}{q:Rat}{w w':World}(h:PutR m q w w'){A:Nat→Prop}(hA:Rcv A w):RatP q (.pointer (some ⟨m,0,none⟩)) w' (fun b=>A b∧b≠m):=by
 obtain⟨h1,s1,s2,h2,h3,h4⟩:=h
 have hlt:=(Array.getElem?_eq_some_iff.1 h2).1
 have hA':Rcv (fun b=>A b∧b≠m) w':=fun b hb=>by
  obtain⟨zz,k1,k2⟩:=hA b hb.1
  exact⟨zz,(h1.block b (Array.getElem?_eq_some_iff.1 k1).1 hb.2).trans k1,k2⟩
 refine⟨m,rfl,⟨m,0,s1,rfl,hlt,fun h=>h.2 rfl,by simp[World.cell?,h2],by simp[World.cell?,h2],h3.avoids hA'⟩,.inl ⟨m,2,s2,rfl,hlt,fun h=>h.2 rfl,?_,by simp[World.cell?,h2],?_⟩⟩
 ·have:decide ((q.den:Int)<0)=false:=by simp
  rw[this]; simp[World.cell?,h2]
 ·exact WSl.avoids h4 hA'
theorem PutR.below{m:Nat}{q:Rat}{w w1 w':World}(h:PutR m q w1 w')(hb:Below w.heap.size w w1):PutR m q w w':=⟨(Mod.of_below hb).trans h.1,h.2⟩
set_option maxRecDepth 100000 in
theorem den_any(q:Rat)(vx:Value)(A:Nat→Prop)(w:World)(hx:RatP q vx w A)(hA:Rcv A w) :
  Calls Tryz.prog 84 #[vx] w fun e w'=>∃ v,e=.returned v∧Below w.heap.size w w'∧IntP q.den v w' A:=by
 obtain⟨b,rfl,_,hd⟩:=hx
 rcases hd with hd|⟨h0,hd⟩
 ·obtain⟨p,n,c,h1,h2,h3,h4⟩:=hd.cells
  have hn:n=(words q.den).length:=by obtain⟨p',c',e,_⟩:=h4; cases e; simp
  have hpos:((n:Int) == 0)=false:=by
   have:(words q.den)≠[]:=fun h=>q.den_nz (words_eq_nil.1 h)
   have:=List.length_pos_iff.2 this
   simp; omega
  have HD:=Lib.hid hd
  clear hd h2 h4 hn
  go_enter Tryz.func84,Tryz.ntmps84
  go_wp2
  go_ret
  exact⟨_,rfl,Below.refl _ _,HD.out⟩
 ·obtain⟨p,n,c,h1,h2,h3,h4⟩:=hd.cells
  have hn:n=0:=by obtain⟨p',c',e,_⟩:=h4; cases e; simp[words_zero]
  subst hn
  have hN:=fun w=>newInt_any 1 (by decide) (by decide) w
  have HN:=Lib.hid hN
  have HQ:=Lib.hid h0
  clear hN hd h2 h4 h0
  go_enter Tryz.func84,Tryz.ntmps84
  go_wp2_with (go_at_call 90; refine(HN.out _).mono ?_; rintro e w' ⟨v,rfl,hb,hi⟩)
  go_ret
  refine⟨v,rfl,hb,?_⟩
  rw[HQ.out]
  exact hi A hA
set_option maxRecDepth 100000 in
theorem Num_any(q:Rat)(vx:Value)(A:Nat→Prop)(w:World)(hx:RatP q vx w A)(hl:RL q 137438953472) :
  Calls Tryz.prog 119 #[vx] w fun e w'=>∃ v,e=.returned v∧NewI q.num v w w':=by
 obtain⟨b,rfl,hn,_⟩:=hx
 have hb:Below w.heap.size w (w.alloc (.cells #[.bool false,.slice none 0 0] 131)):=br.alloc (Nat.le_refl _) _
 have hS:=set_any w.heap.size 0 _ _ q.num _ A _ (heap_alloc_new w (.cells #[.bool false,.slice none 0 0] 131)) (by decide) noW_zInt (hn.below hb) (by have:=hl.1; omega)
 have HS:=Lib.hid hS
 clear hS hn
 go_enter Tryz.func119,Tryz.ntmps119
 go_wp2_with (go_at_call 149; refine HS.out.mono ?_; rintro e w' ⟨rfl,hp⟩)
 go_ret
 exact⟨_,rfl,hp.new (by decide)⟩
set_option maxRecDepth 100000 in
theorem Denom_any(q:Rat)(vx:Value)(A:Nat→Prop)(w:World)(hx:RatP q vx w A)(hl:RL q 137438953472) :
  Calls Tryz.prog 120 #[vx] w fun e w'=>∃ v,e=.returned v∧NewI q.den v w w':=by
 have hx:=hx.noA
 have hb:Below w.heap.size w (w.alloc (.cells #[.bool false,.slice none 0 0] 131)):=br.alloc (Nat.le_refl _) _
 have hD:=den_any q vx NoA _ (hx.below hb) (rcv_noA _)
 have HD:=Lib.hid hD
 have hlen:(words (q.den:Int).natAbs).length<274877906944:=by have:=hl.2; simp; omega
 clear hD hx
 go_enter Tryz.func120,Tryz.ntmps120
 go_wp2_with fail
 refine HD.out.mono ?_
 rintro e w1 ⟨v,rfl,hb1,hi⟩
 have hm:w1.heap[w.heap.size]?=some (.cells #[.bool false,.slice none 0 0] 131 (0,0)):=(hb1.block _ (by simp)).trans (heap_alloc_new w _)
 have hS:=set_any w.heap.size 0 _ _ q.den v NoA w1 hm (by decide) noW_zInt hi hlen
 have HS:=Lib.hid hS
 clear hS hm
 go_wp2_with (go_at_call 149; refine HS.out.mono ?_; rintro e w' ⟨rfl,hp⟩)
 go_ret
 exact⟨_,rfl,(hp.below hb1).new (by decide)⟩
set_option maxRecDepth 100000 in
theorem RSign_any(q:Rat)(vx:Value)(A:Nat→Prop)(w:World)(hx:RatP q vx w A) :
  Calls Tryz.prog 82 #[vx] w fun e w'=>e=.returned (.int .i64 q.num.sign)∧w=w':=by
 obtain⟨b,rfl,hn,_⟩:=hx
 have HS:=Lib.hid (Sign_any q.num _ A w hn)
 clear hn
 go_enter Tryz.func82,Tryz.ntmps82
 go_wp2_with (go_at_call 92; refine HS.out.mono ?_; rintro e w' ⟨rfl,rfl⟩)
 go_ret
 exact⟨rfl,rfl⟩
end Go.Proofs.YthklnbaddobieaaGreat
namespace Go.Proofs.YthklnbaddobieaaGreat
open Go.RowKit Tr
theorem later{R:Fact}(hk:R.Keeps){v:Value}{w w1:World}{A1:Nat→Prop}(h:R v w NoA)(h1:Below w.drew.heap.size w.drew w1)(hN:∀ b,A1 b→w.drew.heap.size≤b):R v w1 A1 :=
 hk v w w1 NoA A1 h1.size (fun b hb _=>⟨h1.block b hb,fun hA=>absurd (hN b hA) (Nat.not_le.2 hb)⟩) h
theorem IntP.shape{z:Int}{v:Value}{w:World}{A:Nat→Prop}(h:IntP z v w A):∃ b o,v=.pointer (some ⟨b,o,none⟩):=by obtain⟨b,o,_,e,_⟩:=h; exact⟨b,o,e⟩
theorem RatP.shape{q:Rat}{v:Value}{w:World}{A:Nat→Prop}(h:RatP q v w A):∃ b,v=.pointer (some ⟨b,0,none⟩):=by obtain⟨b,e,_⟩:=h; exact⟨b,e⟩
abbrev zI:Obj:=.cells #[.bool false,.slice none 0 0] 131 (0,0)
end Go.Proofs.YthklnbaddobieaaGreat
