/- Laws. -/
import Derived.Test.YtcjjdooeogmdbaaGreatVao
set_option linter.all false
set_option maxHeartbeats 4000000
set_option maxRecDepth 100000
open Go.Lib (hid)
namespace Tr
def Khz(n N:Nat):Prop:=n<2^N/\(N=0\/2^(N-1)<=n)
def Kyg{a m k bt:Nat}(hm:(Qad a).length=m)(hm0:0<m)(hbt:bt=(Qad a)[m-1]?.getD 0)(h1:2147483648<=bt*2^k)(h2:bt*2^k<4294967296)(hk:k<=31):Khz a (32*m-k):=by
 have h3:=Qeh (Qad a) (m-1) (by omega);rw[Qaq,Qcm,List.drop_eq_nil_of_le (show(Qad a).length<=m-1+1 by omega)] at h3;rw[show wat (Qad a) (m-1)=bt from hbt.symm] at h3;simp only[wv,Nat.mul_zero,Nat.add_zero] at h3;have h4:=Qil (Qfs (Qas a) (m-1));have h5:((Qad a).take (m-1)).length=m-1:=by simp;omega
 rw[h5] at h4;have hB:(4294967296:Nat)^(m-1)=2^(32*(m-1)):=by rw[show(4294967296:Nat)=2^32 by decide,<-Nat.pow_mul]
 have hp:=Nat.two_pow_pos k;constructor
 .have h6:(bt+1)*2^k<=2^32:=by
   have e:(4294967296:Nat)=2^(32-k)*2^k:=by rw[<-Nat.pow_add,show 32-k+k=32 by omega]
   rw[show(2:Nat)^32=4294967296 by decide,e];rw[e] at h2;exact Nat.mul_le_mul_right _ (Nat.lt_of_mul_lt_mul_right h2)
  have h7:bt+1<=2^(32-k):=by
   have e:(2:Nat)^32=2^(32-k)*2^k:=by rw[<-Nat.pow_add,show 32-k+k=32 by omega]
   rw[e] at h6;exact Nat.le_of_mul_le_mul_right h6 hp
  have h8:a<4294967296^(m-1)*(bt+1):=by rw[Nat.mul_add];omega
  have h9:4294967296^(m-1)*(bt+1)<=4294967296^(m-1)*2^(32-k):=Nat.mul_le_mul_left _ h7;rw[hB,<-Nat.pow_add,show 32*(m-1)+(32-k)=32*m-k by omega] at h9;rw[hB] at h8;omega
 .right;have h6:2^(31-k)<=bt:=by
   have e:(2147483648:Nat)=2^(31-k)*2^k:=by rw[<-Nat.pow_add,show 31-k+k=31 by omega]
   rw[e] at h1;exact Nat.le_of_mul_le_mul_right h1 hp
  have h9:4294967296^(m-1)*2^(31-k)<=4294967296^(m-1)*bt:=Nat.mul_le_mul_left _ h6;rw[hB,<-Nat.pow_add,show 32*(m-1)+(31-k)=32*m-k-1 by omega] at h9;rw[hB] at h3;omega
def Krd:Khz 0 0:=⟨by decide,.inl rfl⟩
def Qxy{n N:Nat}(h:Khz n N):(Qec n).length=(N+7)/8:=by
 have e:∀ k,(256:Nat)^k=2^(8*k):=fun k=>by rw[show(256:Nat)=2^8 by decide,<-Nat.pow_mul]
 refine Qnq ?_ ?_
 .rw[e];exact Nat.lt_of_lt_of_le h.1 (Nat.pow_le_pow_right (by decide) (by omega))
 .rcases h.2 with h0|h0
  .left;subst h0;rfl
  .rcases Nat.eq_zero_or_pos N with hN|hN
   .left;subst hN;rfl
   .right;rw[e];exact Nat.le_trans (Nat.pow_le_pow_right (by decide) (by omega)) h0
def Qtx(a q:Nat):wat (Qad a) q=a/4294967296^q%4294967296:=by
 by_cases h:q<=(Qad a).length
 .have h1:=Qxl (Qas a) q h;rw[Qaq,Qcm] at h1;rw[h1,Nat.add_mul_mod_self_left,Nat.mod_eq_of_lt (Qci (Qas a) q)]
 .rw[Qih (by omega),Nat.div_eq_of_lt];exact Nat.lt_of_lt_of_le (Qcc a) (Nat.pow_le_pow_right (by decide) (by omega))
def Qle(a q r:Nat)(hr:r<4):a/4294967296^q%4294967296/2^(8*r)%256=a/256^(4*q+r)%256:=by
 have e1:(4294967296:Nat)=2^(8*r)*2^(32-8*r):=by rw[<-Nat.pow_add,show 8*r+(32-8*r)=32 by omega]
 have e2:(256:Nat)^(4*q+r)=4294967296^q*2^(8*r):=by
  rw[show(4294967296:Nat)=256^4 by decide,<-Nat.pow_mul,show(2:Nat)^(8*r)=256^r by rw[Nat.pow_mul],<-Nat.pow_add]
 have e3:a/4294967296^q%4294967296/2^(8*r)=a/4294967296^q/2^(8*r)%2^(32-8*r):=by
  conv=>lhs;rw[e1,Nat.mod_mul_right_div_self]
  rw[<-e1]
 rw[e3,Nat.mod_mod_of_dvd,e2,Nat.div_div_eq_div_mul];exact⟨2^(24-8*r),by rw[show(256:Nat)=2^8 by decide,<-Nat.pow_add];congr 1;omega⟩
end Tr
namespace Go.Proofs.YtcjjdooeogmdbaaGreat
open Go.RowKit Tr Proofs.Tryz
def Qvk(x:Int)(vx:Value)(A:Nat->Prop)(w:World)(hx:Qce x vx w A)(hn:(Qad x.natAbs).length<274877906944) :
  Calls prog 217 #[vx] w fun e w'=>∃ N:Nat,e=.returned (.int .i64 N)/\Hid (Khz x.natAbs N)/\N<=32*(Qad x.natAbs).length/\Below w.heap.size w w':=by
 obtain⟨b,bo,sl,rfl,hb,_,c0,c1,hsl⟩:=hx;have hw:=hsl.wsl;obtain⟨p,cap,rfl,hcap,hrow⟩:=hw;obtain⟨a,ha⟩:∃ a,a=x.natAbs:=⟨_,rfl⟩
 rw[<-ha] at c1 hn hcap hrow ⊢;clear ha hsl
 by_cases hz:a=0
 .subst hz;rw[Qax] at c1
  go_enter func217,Tryz.ntmps217
  go_wp2
  go_ret
  exact⟨0,rfl,hid Krd,Nat.zero_le _,Below.refl _ _⟩
 .have hm0:0<(Qad a).length:=List.length_pos_iff.2 (fun h=>hz (Qcd.1 h));obtain⟨bb,ob,rfl,hbb,hcell⟩:=hrow (List.length_pos_iff.1 hm0);obtain⟨m,hm⟩:∃ m,(Qad a).length=m:=⟨_,rfl⟩
  rw[hm] at c1 hn hm0 hcap hcell ⊢;have d0:=hcell (m-1) (by omega);obtain⟨bt,hbt⟩:∃ bt,bt=(Qad a)[m-1]?.getD 0:=⟨_,rfl⟩
  have hbt0:0<bt/\bt<4294967296:=by
   have hne:Qad a≠[]:=by intro h;rw[h] at hm;simp at hm;omega
   have h1:=Qkm a _ _ (List.dropLast_concat_getLast hne).symm;have h2:(Qad a)[m-1]?.getD 0=(Qad a).getLast hne:=by
    rw[List.getLast_eq_getElem,List.getElem?_eq_getElem (by omega)];simp[hm]
   rw[hbt,h2];exact⟨by omega,Qas a _ (List.getLast_mem hne)⟩
  rw[<-hbt] at d0;obtain⟨n0,hn0⟩:∃ n0,n0=32*m:=⟨_,rfl⟩
  have e0:32*(m:Int)=(n0:Int):=by omega
  have e1:(0:Int)<=(m:Int)-1:=by omega
  have e2:(m:Int)-1<(m:Int):=by omega
  have e3:((m:Int)-1).toNat=m-1:=by omega
  have e4:IntKind.i64.wrap ((m:Int)-1)=(m:Int)-1:=IntWalk.i64_in _ (by omega);have hn1:(0:Int)<(n0:Int):=by omega
  have HM:=hid (And.intro hm (And.intro hbt hn0));clear hcell hm hbt hrow hn0 hz
  go_enter func217,Tryz.ntmps217
  go_wp2_with fail
  go_quiet (fail)
  go_wp2_with fail
  go_loop [3,4] (fun u t=>∃ k y:Nat,u=.int .i64 ((n0:Int)-(k:Int))/\t=.int .u32 y/\Hid (y=bt*2^k)/\y<4294967296/\k<=31) (fun u _=>(intOf u).toNat)
  case atStart=>exact⟨0,bt,by simp,rfl,hid (by simp),hbt0.2,by omega⟩
  case round =>
   obtain⟨k,y,rfl,rfl,hy,hy2,hk⟩:=hrel
   by_cases hlt:y<2147483648
   .have hk2:k<31:=by
     rcases Nat.lt_or_ge k 31 with h|h
     .exact h
     .have h1:(2:Nat)^31<=2^k:=Nat.pow_le_pow_right (by decide) h;have h2:1*2^k<=bt*2^k:=Nat.mul_le_mul_right _ hbt0.1;have:=hy.out;omega
    have hy':Hid (y*2=bt*2^(k+1)):=hid (by rw[hy.out,Nat.pow_succ,Nat.mul_assoc]);have hz:(y:Int)/2147483648=0:=by omega
    have hnk:(k:Int)<(n0:Int):=by have:=HM.out;omega
    go_wp2
    go_round
    case rel=>exact⟨k+1,y*2,by congr 1;omega,by go_num,hy',by omega,by omega⟩
    case measure=>simp[intOf];omega
   .have hz:¬(y:Int)/2147483648=0:=by omega
    have hfin:=hid (Kyg HM.out.1 hm0 HM.out.2.1 (by rw[<-hy.out];omega) (by rw[<-hy.out];omega) hk);clear hlt
    go_wp2
    go_ret
    exact⟨32*m-k,Qfw (by have:=HM.out;omega),hfin,by omega,Qbv br _⟩
def Uco(l:List Nat):Array Value:=(l.map fun x:Nat=>Value.int .u8 (x:Int)).toArray
def Kba(w:World)(B:Nat)(l:List Nat):Prop:=w.heap[B]?=some (.cells (Uco l) 5 (0,0))
def Kba.cell{w:World}{B:Nat}{l:List Nat}(h:Kba w B l){i:Nat}(hi:i<l.length):w.cell? ⟨B,i,none⟩=some (.int .u8 (l[i]?.getD 0:Nat)):=by
 unfold Kba at h;simp[World.cell?,h,Uco,hi]
def Kba.frozen{w:World}{B:Nat}{l:List Nat}(h:Kba w B l)(i:Nat):w.frozen? ⟨B,i,none⟩=false:=by
 unfold Kba at h;simp[World.frozen?,h]
def Kba.set{w:World}{B:Nat}{l:List Nat}(h:Kba w B l)(i x:Nat):Kba (w.setCell ⟨B,i,none⟩ (.int .u8 (x:Int))) B (l.set i x):=by
 unfold Kba at *
 simp only[World.setCell,Array.getElem?_modify,if_true,h,Option.map_some];simp[Uco,List.map_set]
def Kba.lt{w:World}{B:Nat}{l:List Nat}(h:Kba w B l):B<w.heap.size:=(Array.getElem?_eq_some_iff.1 h).1
def Kba.new(w:World)(l:List Nat):Kba (w.alloc (.cells (Uco l) 5)) w.heap.size l:=heap_alloc_new w _
def Ufv:((prog).info? 5).map (fun i=>(i.zero,i.size,i.bytes))=some (some (.int .u8 0),1,1):=by kernel_rfl
def Ksq(n:Nat):madeCells (Value.int .u8 0).cells (n*1)=Uco (List.replicate n 0):=by
 apply Array.ext
 .simp[madeCells,Uco]
 .intro i h1 h2;have e:i%1=0:=Nat.mod_one i;simp[madeCells,Uco,Value.cells,e]
def Ktx(n:Nat)(hn:n<4398046511104)(w:World):(Instr.makeSlice 220 (.int .i64 (n:Int)) (.int .i64 (n:Int))).run prog w
  = .ok (.slice (some ⟨w.heap.size,0,none⟩) n n) (w.alloc (.cells (Uco (List.replicate n 0)) 5)):=by
 obtain⟨i,hi,hz,hs,hb⟩:=info_parts Ufv;have:=run_make (P:=prog) w 220 5 i (.int .u8 0) Tryz.underlying220 hi hz .i64 .i64 n n (by omega) (Int.le_refl _) (by rw[hb];omega) (by omega);rw[this,hs,Int.toNat_natCast,Ksq]
def Klc{a j:Nat}(h:j<(Qcj a).size):((Qcj a)[j].toNat:Nat)=a/256^((Qcj a).size-1-j)%256:=by
 have h1:=Kfw (Qcj a) ((Qcj a).size-1-j) (by omega);rw[Qyi] at h1;have h2:(Qcj a).size-1-((Qcj a).size-1-j)=j:=by omega
 simp only[h2] at h1;have h3:(Qcj a).size-1-j<(Qec a).length:=by rw[<-Qgg];omega
 rw[List.getElem?_eq_getElem h3,Kmv] at h1;simpa using h1.symm
def Qsa(x:Int)(vx:Value)(A:Nat->Prop)(w:World)(hx:Qce x vx w A)(hn:(Qad x.natAbs).length<274877906944) :
  Calls prog 169 #[vx] w fun e w'=>∃ v,e=.returned v/\BSl w' v (Qcj x.natAbs)/\Below w.heap.size w w':=by
 have hbl:=Qvk x vx A w hx hn;obtain⟨b,bo,sl,rfl,hb,_,c0,c1,hsl⟩:=hx;have hw:=hsl.wsl;obtain⟨p,cap,rfl,hcap,hrow⟩:=hw;obtain⟨a,ha⟩:∃ a,a=x.natAbs:=⟨_,rfl⟩
 rw[<-ha] at c1 hn hcap hrow hbl ⊢;obtain⟨m,hm⟩:∃ m,(Qad a).length=m:=⟨_,rfl⟩
 rw[hm] at c1 hn hcap hrow hbl;have HR:=hid hrow;have HB:=hid hbl;have HM:=hid hm;clear ha hsl hrow hbl hm c0
 go_enter func169,Tryz.ntmps169
 go_wp2_with fail
 refine HB.out.mono ?_;rintro e w1 ⟨N,rfl,hN,hN2,hb1⟩;obtain⟨n,hn'⟩:∃ n,n=(N+7)/8:=⟨_,rfl⟩
 have e1:((N:Int)+7)/8=(n:Int):=by omega
 have hmk:=Ktx n (by omega);have hnb:n<4398046511104:=by omega
 have HN:=hid hn';clear hn'
 go_wp2_with fail
 rw[e1];clear e1;have hlen:Hid ((Qec a).length=n):=hid (by rw[Qxy hN.out,HN.out]);have c1:=(hb1.cell (p:=⟨b,bo+1,none⟩) hb).trans c1;have hb':b<w1.heap.size:=Nat.lt_of_lt_of_le hb hb1.size
 go_loopw [5,14] (fun _ i wr=>∃(k:Nat) (cur:List Nat),k<=n/\i=.int .i64 k/\Hid (cur.length=n)/\Hid (∀ j,j<k->cur[n-1-j]?=some (a/256^j%256))/\Kba wr w1.heap.size cur/\Below w1.heap.size w1 wr) (fun _ i _=>n-(intOf i).toNat)
 case atStart=>exact⟨0,List.replicate n 0,Nat.zero_le _,rfl,hid (by simp),hid (fun j hj=>by omega),Kba.new _ _,br.alloc lr _⟩
 case round =>
  obtain⟨k,cur,hk,rfl,hlc,hinv,hblk,hB⟩:=hrel
  by_cases hlt:k<n
  .obtain⟨kq,hkq⟩:∃ kq,kq=k/4:=⟨_,rfl⟩
   obtain⟨kr,hkr⟩:∃ kr,kr=k%4:=⟨_,rfl⟩
   obtain⟨kj,hkj⟩:∃ kj,kj=n-1-k:=⟨_,rfl⟩
   obtain⟨ks,hks⟩:∃ ks,ks=8*kr:=⟨_,rfl⟩
   have hkM:kq<m:=by
    have h1:=Qjj (n:=a) (k:=4*m) (by have:=Qcc a;rw[HM.out] at this;rw[show(256:Nat)^(4*m)=4294967296^m by rw[Nat.pow_mul]];exact this);have:=hlen.out;omega
   obtain⟨bb,ob,rfl,hbb,hcell⟩:=HR.out (by intro h;have:=HM.out;rw[h] at this;simp at this;omega);have hbb':bb<w1.heap.size:=Nat.lt_of_lt_of_le hbb hb1.size;have c2:=(hB.cell (p:=⟨bb,ob+kq,none⟩) hbb').trans ((hb1.cell (p:=⟨bb,ob+kq,none⟩) hbb).trans (hcell kq hkM));have c1':=(hB.cell (p:=⟨b,bo+1,none⟩) hb').trans c1;have c3:=hblk.cell (i:=kj) (by have:=hlc.out;omega);have f3:=hblk.frozen kj;obtain⟨y,hy⟩:∃ y,y=wat (Qad a) kq:=⟨_,rfl⟩
   rw[show(Qad a)[kq]?.getD 0=y from hy.symm] at c2;have hy32:y<4294967296:=by rw[hy];exact Qci (Qas a) kq
   obtain⟨z,hz⟩:∃ z,z=a/256^k%256:=⟨_,rfl⟩
   have hyz:y/2^ks%256=z:=by rw[hy,Qtx,hks,Qle a kq kr (by omega),hz,show 4*kq+kr=k by omega]
   have q0:(y:Int)/2^ks%256=(z:Int):=by rw[<-hyz];simp
   have q1:(k:Int)/4=(kq:Int):=by omega
   have q2:(k:Int)%4=(kr:Int):=by omega
   have q3:(n:Int)-1-(k:Int)=(kj:Int):=by omega
   have q7:(kr:Int)*8=(ks:Int):=by omega
   have q5:(kj:Int)<(n:Int):=by omega
   have q6:(kq:Int)<(m:Int):=by omega
   have HK:=hid (And.intro hkj hz);clear hkq hkr hkj hks hyz hy hz hcell c1
   go_wp2_with fail
   go_roundw
   case rel =>
    refine⟨k+1,cur.set kj z,by omega,by go_num,hid (by have:=hlc.out;simpa using this),hid (fun j hj=>?_),hblk.set kj z,hB.setCell (p:=⟨w1.heap.size,kj,none⟩) lr _⟩;have h1:=HK.out.1
    by_cases hjk:j=k
    .subst hjk;rw[<-h1,<-HK.out.2,List.getElem?_set_self (by have:=hlc.out;omega)]
    .rw[List.getElem?_set_ne (by omega)];exact hinv.out j (by omega)
   case measure=>simp[intOf];omega
  .obtain rfl:n=k:=by omega
   clear HR c1
   go_wp2
   go_ret
   have hsz:(Qcj a).size=n:=by rw[Qgg];exact hlen.out
   refine⟨.slice (some ⟨w1.heap.size,0,none⟩) n n,rfl,⟨w1.heap.size,0,n,by rw[hsz],hblk.lt,fun i hi=>?_⟩,hb1.trans (hB.mono hb1.size)⟩;rw[Nat.zero_add,hblk.cell (i:=i) (by have:=hlc.out;omega)];have h1:=hinv.out (n-1-i) (by omega);rw[show n-1-(n-1-i)=i by omega] at h1;have h2:=Klc hi;simp only[hsz] at h2;rw[h1,h2];rfl
end Go.Proofs.YtcjjdooeogmdbaaGreat
namespace Tr
def Kok{l out:List Nat}{k s:Nat}(hl:WOk l)(hs:s<32)(hk:k<l.length)(ho:out.length=k)(h:wv out=wv l/2^s%4294967296^k) :
  wv (out++[(wat l (k+1)*4294967296+wat l k)/2^s%4294967296])=wv l/2^s%4294967296^(k+1):=by
 rw[Qul,ho,h,Nat.mod_pow_succ];congr 2;rw[Nat.div_div_eq_div_mul,Nat.mul_comm (2^s),<-Nat.div_div_eq_div_mul,Qxl hl k (by omega),Qcm,Qcm,Qww hs,Nat.add_comm]
end Tr
namespace Go.Proofs.YtcjjdooeogmdbaaGreat
open Go.RowKit Tr Proofs.Tryz
def Upl(w:World)(B:Nat)(v:Value)(l:List Nat):Prop:=w.ownsRow B 233 1 v l.length (l.map fun x:Nat=>Value.int .u32 (x:Int))
def Upl.wsl{w:World}{B:Nat}{v:Value}{l:List Nat}(h:Upl w B v l):WSl w v l:=by
 obtain⟨h1,⟨h2,h2'⟩|⟨g,cap',cur,h2,h3,h4,h5,h6,h7,h8⟩⟩:=h
 .have:=List.eq_nil_of_length_eq_zero h2';subst this;subst h2;exact WSl.nil _
 .refine⟨some ⟨g,0,none⟩,cap',h2,h5,fun _=>⟨g,0,rfl,(Array.getElem?_eq_some_iff.1 h4).1,fun j hj=>?_⟩⟩;have h9:(cur.toList.take (l.length*1))[j]?=some (.int .u32 (l[j]?.getD 0:Nat)):=by rw[h8];simp[hj]
  rw[List.getElem?_take_of_lt (by omega)] at h9;simp at h9;simp[World.cell?,h4,h9]
def Kol(la:List Nat)(n N q s:Nat)(hna:la.length=n)(oa:WOk la)(hq:N/32=q)(hs:N%32=s)(pa:Option Addr)(ca:Nat)(w:World)(ha:WSl w (.slice pa n ca) la)(hn:n<549755813888)(hN:N<1099511627776) :
  Calls prog 247 #[.slice pa n ca,.int .i64 N] w fun e w'=>∃ v,e=.returned v/\WSl w' v (Qad (wv la/2^N))/\Below w.heap.size w w':=by
 have H:=hid hna;have HW:=hid ha;have HA:Hid (Row w pa la):=hid (fun hne=>by
  obtain⟨p,c,e,_,h⟩:=ha;cases e;exact h hne)
 obtain⟨l,hl⟩:∃ l:List Nat,l=la.drop q:=⟨_,rfl⟩
 have ol:WOk l:=by rw[hl];exact Qkn oa q
 have HL:Hid (l.length=n-q/\(∀ k,wat la (q+k)=wat l k)):=hid ⟨by rw[hl];simp;omega,fun k=>by unfold wat;rw[hl,List.getElem?_drop]⟩;have HF:Hid (wv l/2^s=wv la/2^N):=hid (by
  rcases Nat.lt_or_ge la.length q with h|h
  .rw[Qwv oa hq (by omega),hl,List.drop_eq_nil_of_le (by omega),Kvr,Nat.zero_div]
  .rw[hl];exact Kdj oa hq hs h)
 have e1:(N:Int).tdiv 32=(q:Int):=by rw[Int.tdiv_eq_ediv_of_nonneg (by omega)];omega
 have e2:(N:Int).tmod 32=(s:Int):=by rw[Int.tmod_eq_emod_of_nonneg (by omega)];omega
 have HS:=hid hs;have HQ:=hid hq;have hqb:q<549755813888:=by omega
 clear ha hna hl hs hq
 go_enter func247,Tryz.ntmps247
 go_wp2_with fail
 go_loopw [5,6,7] (fun v i _ wr=>∃(k:Nat) (out:List Nat),q+k<=max q n/\i=.int .i64 (q+k:Nat)/\Hid (out.length=k)/\WOk out/\Hid (wv out=wv l/2^s%4294967296^k)/\Upl wr w.heap.size v out/\Below w.heap.size w wr)
  (fun _ i _ _=>n-(intOf i).toNat)
 case atStart =>
  exact⟨0,[],by omega,rfl,hid rfl,Qhg,hid (by simp[wv,Nat.mod_one]),World.ownsRow_nil _ _ _ _,Below.refl _ _⟩
 case round =>
  obtain⟨k,out,hk,rfl,hlo,oo,hinv,hown,hB⟩:=hrel;obtain⟨j,hj⟩:∃ j,j=q+k:=⟨_,rfl⟩
  rw[<-hj]
  by_cases hlt2:j<n
  .obtain⟨b,off,rfl,hbs,hcl⟩:=HA.out (by intro h;have:=H.out;rw[h] at this;simp at this;omega);have c0:=(hB.cell (p:=⟨b,off+j,none⟩) hbs).trans (hcl j (by have:=H.out;omega));obtain⟨x,hx⟩:∃ x:Nat,x=la[j]?.getD 0:=⟨_,rfl⟩
   rw[<-hx] at c0;have hx':x=wat l k:=by rw[hx,<-HL.out.2,<-hj];rfl
   have bx:x<4294967296:=by rw[hx'];exact Qci ol k
   obtain⟨y,hy⟩:∃ y:Nat,y=wat l (k+1):=⟨_,rfl⟩
   have by_:y<4294967296:=by rw[hy];exact Qci ol _
   have hat:=hid (fun m=>by have:=Qqd la _ (j+1) (wr.drewN m) oa (HW.out.below (Qbv hB m));rwa[show wat la (j+1)=y by rw[hy,<-HL.out.2];congr 1;omega] at this);have ej:((j+1:Nat):Int)=(j:Int)+1:=by omega
   rw[ej] at hat;have hs32:s<32:=by have:=HS.out;omega
   have hst:=hid (Kok (s:=s) (k:=k) ol hs32 (by have:=HL.out.1;omega) hlo.out hinv.out);rw[<-hx',<-hy] at hst;obtain⟨t,ht⟩:∃ t:Nat,t=y*4294967296+x:=⟨_,rfl⟩
   have ht1:(y:Int)*4294967296+(x:Int)=(t:Int):=by omega
   have ht2:t<18446744073709551616:=by omega
   rw[<-ht] at hst;obtain⟨u,hu⟩:∃ u:Nat,u=t/2^s:=⟨_,rfl⟩
   have hu1:(t:Int)/2^s=(u:Int):=by rw[hu];simp
   have hu2:u<18446744073709551616:=by rw[hu];exact Nat.lt_of_le_of_lt (Nat.div_le_self _ _) ht2
   rw[<-hu] at hst;have hol:=hlo.out;obtain⟨i0,hi,hz0,hz1,hz2⟩:=info_parts Qiv;have HE:Hid ((u:Int)%4294967296=((u%4294967296:Nat):Int)):=hid (by omega);have HJ:=hid hj;clear hcl hx hx' hy ht hu ej hj
   go_wp2_with fail
   go_quiet ((go_at_call 246;exact Uaw (hat.out _)))
   go_wp2_with (first|(at_builtin;rw[HE.out];refine wpList_append_own _ rfl (.tmp 30) (.tmp 34) 176 rfl w.heap.size 233 i0 (.int .u32 0) 1 4 Tryz.underlying176 hi hz0 hz1 hz2 rfl (by decide) _ _ _ rfl (World.ownsRow.alloc hown _) ⟨wr.heap.size,0,none⟩ 1 1 [.int .u32 ((u%4294967296:Nat):Int)] rfl rfl (cell_one_new _ _ _) (ints_oneCell .u32 [((u%4294967296:Nat):Int)]) (by unfold maxLen;omega) (by omega) (by have:=hB.size;simp;omega) ?_;intro v4 w4 hown4 hgrow4 _))
   have hB4:Below w.heap.size w w4:=((Qbv hB _).alloc hB.size _).grown hgrow4 (by have:=hB.size;simp;omega) (fun k e=>(World.ownsRow.lt hown k e).1);refine⟨⟨k+1,out++[u%4294967296],by have:=HJ.out;omega,by have:=HJ.out;go_num,hid (by simp;exact hol),?_,hst,by unfold Upl;simpa using hown4,hB4⟩,by simp[intOf];omega⟩;rw[Qhf];exact⟨oo,by rw[Qet];exact⟨Nat.mod_lt _ (by decide),Qhg⟩⟩
  .have hfin:Hid (wv out=wv la/2^N):=hid (by
    rw[<-HF.out];refine Kdl (n:=n-q) ol HL.out.1 (by have:=hlo.out;omega) ?_;have:=hinv.out;rw[List.take_of_length_le (by have:=hlo.out;omega)];rwa[show n-q=k by omega])
   have HJ:=hid hj;have hcut:=hid (Qgk out _ wr oo hown.wsl (by have:=hlo.out;omega));clear hj
   go_wp2_with (refine hcut.out.mono ?_;rintro e w' ⟨v,rfl,hv,rfl⟩)
   go_ret
   exact⟨v,rfl,by rw[<-hfin.out];exact hv,hB⟩
def Ktz(la:List Nat)(N:Nat)(va:Value)(w:World)(oa:WOk la)(ha:WSl w va la)(hn:la.length<549755813888)(hN:N<1099511627776) :
  Calls prog 247 #[va,.int .i64 N] w fun e w'=>∃ v,e=.returned v/\WSl w' v (Qad (wv la/2^N))/\Below w.heap.size w w':=by
 obtain⟨pa,ca,rfl,hca,ha'⟩:=ha;exact Kol la _ N _ _ rfl oa rfl rfl pa ca w ⟨pa,ca,rfl,hca,ha'⟩ hn hN
def Kgp(la:List Nat)(n d:Nat)(hna:la.length=n)(oa:WOk la)(hd:0<d)(hd2:d<4294967296)(pa:Option Addr)(ca:Nat)(w:World)(ha:Row w pa la)(hn:n<1099511627776) :
  Calls prog 244 #[.slice pa n ca,.int .u64 d] w fun e w'=>∃ v,e=.returned (.tuple #[v,.int .u64 (wv la%d:Nat)])/\WSl w' v (Qad (wv la/d))/\Below w.heap.size w w':=by
 have H:=hid hna;have HA:=hid ha;have hmk:=Qhs n (by omega);clear ha hna
 go_enter func244,Tryz.ntmps244
 go_wp2
 go_loopw [7,8] (fun r i wr=>∃(k s:Nat) (out:List Nat),k<=n/\i=.int .i64 ((k:Int)-1)/\r=.int .u64 s/\s<d/\Hid (out.length=n)/\WOk out/\Hid (wv (out.drop k)*d+s=wv (la.drop k))/\Blk wr w.heap.size out/\Below w.heap.size w wr)
  (fun _ i _=>(intOf i+1).toNat)
 case atStart =>
  exact⟨n,0,List.replicate n 0,Nat.le_refl _,rfl,rfl,hd,hid (by simp),Qbr _,hid (by rw[List.drop_eq_nil_of_le (by simp),List.drop_eq_nil_of_le (by have:=H.out;omega)];simp[wv]),Blk.new _ _,br.alloc lr _⟩
 case round =>
  obtain⟨k,s,out,hk,rfl,rfl,hs,hlo,oo,hinv,hblk,hB⟩:=hrel;cases k with
  | zero =>
   have h1:=hinv.out;simp only[List.drop_zero] at h1;have hq:wv out=wv la/d:=by
    rw[<-h1];rw[Nat.add_comm,Nat.add_mul_div_right _ _ hd,Nat.div_eq_of_lt hs];omega
   have hr:s=wv la%d:=by
    rw[<-h1,Nat.add_comm,Nat.add_mul_mod_self_right,Nat.mod_eq_of_lt hs]
   have hcut:=hid (Qgk out _ wr oo (hblk.wsl (k:=n) (cap:=n) (by have:=hlo.out;omega) lr |> fun x=>by rwa[List.take_of_length_le (by have:=hlo.out;omega)] at x) (by have:=hlo.out;omega));rw[hq] at hcut;have HR:=hid hr;clear h1 hq hr
   go_wp2_with (refine hcut.out.mono ?_;rintro e w' ⟨v,rfl,hv,rfl⟩)
   go_ret2
   refine⟨v,?_,hv,hB⟩;rw[<-HR.out];rfl
  | succ m =>
   have e:((m+1:Nat):Int)-1=(m:Int):=by omega
   rw[e];clear e;obtain⟨b,off,rfl,hbs,hcl⟩:=HA.out (by intro h;have:=H.out;rw[h] at this;simp at this;omega);have c0:=(hB.cell (p:=⟨b,off+m,none⟩) hbs).trans (hcl m (by have:=H.out;omega));have c1:=hblk.cell (i:=m) (by have:=hlo.out;omega);have c2:=hblk.frozen m;have bx:la[m]?.getD 0<4294967296:=Qci oa m;have hst:=hid (Qwz (d:=d) (by have:=H.out;omega) (by have:=hlo.out;omega) hinv.out);have e1:((s:Int)*4294967296+(la[m]?.getD 0:Nat))%(d:Int)=((s*4294967296+wat la m)%d:Nat):=by simp[wat]
   have e2:((s:Int)*4294967296+(la[m]?.getD 0:Nat))/(d:Int)=((s*4294967296+wat la m)/d:Nat):=by simp[wat]
   have hq:(s*4294967296+wat la m)/d<4294967296:=Kkx hs bx;have e3:(((s*4294967296+wat la m)/d:Nat):Int)%4294967296=((s*4294967296+wat la m)/d:Nat):=by
    generalize (s*4294967296+wat la m)/d=q at *
    omega
   have E:=hid (And.intro e1 (And.intro e2 e3));clear hcl e1 e2 e3
   go_wp2
   go_roundw
   case rel =>
    rw[E.out.1,E.out.2.1,E.out.2.2];exact⟨m,_,_,by omega,rfl,rfl,Nat.mod_lt _ hd,hid (by have:=hlo.out;simpa using this),Qdb oo _ _ hq,hst,hblk.set _ _,hB.setCell (p:=⟨w.heap.size,m,none⟩) lr _⟩
   case measure=>simp[intOf]
def Kor(la:List Nat)(d:Nat)(va:Value)(w:World)(oa:WOk la)(hd:0<d)(hd2:d<4294967296)(ha:WSl w va la)(hn:la.length<1099511627776) :
  Calls prog 244 #[va,.int .u64 d] w fun e w'=>∃ v,e=.returned (.tuple #[v,.int .u64 (wv la%d:Nat)])/\WSl w' v (Qad (wv la/d))/\Below w.heap.size w w':=by
 obtain⟨pa,ca,rfl,hca,ha⟩:=ha;exact Kgp la _ d rfl oa hd hd2 pa ca w ha hn
end Go.Proofs.YtcjjdooeogmdbaaGreat
namespace Tr
end Tr
namespace Go.Proofs.YtcjjdooeogmdbaaGreat
open Go.RowKit Tr Proofs.Tryz
def Qzz{b m:Nat}(hm:(Qad b).length=m)(hm0:0<m):0<(Qad b)[m-1]?.getD 0/\(Qad b)[m-1]?.getD 0<4294967296:=by
 have hne:Qad b≠[]:=by intro h;rw[h] at hm;simp at hm;omega
 have h1:=Qkm b _ _ (List.dropLast_concat_getLast hne).symm;have h2:(Qad b)[m-1]?.getD 0=(Qad b).getLast hne:=by
  rw[List.getLast_eq_getElem,List.getElem?_eq_getElem (by omega)];simp[hm]
 rw[h2];exact⟨by omega,Qas b _ (List.getLast_mem hne)⟩
def Kty(a m:Nat)(hm:(Qad a).length=m)(hm0:0<m)(va:Value)(w:World)(ha:WSl w va (Qad a))(hn:m<549755813888) :
  Calls prog 236 #[va] w fun e w'=>(∃ k,0<k/\k<=32/\2^(k-1)<=(Qad a)[m-1]?.getD 0/\(Qad a)[m-1]?.getD 0<2^k/\e=.returned (.int .i64 (32*(m-1)+k:Nat)))/\w=w':=by
 obtain⟨p,c,rfl,hc,hr⟩:=ha;obtain⟨b,off,rfl,hbs,hcl⟩:=hr (by intro h;rw[h] at hm;simp at hm;omega);have ht:=Qzz hm hm0;have c0:=hcl (m-1) (by omega);obtain⟨bt,hbt⟩:∃ bt,bt=(Qad a)[m-1]?.getD 0:=⟨_,rfl⟩
 rw[<-hbt] at c0 ht ⊢;rw[hm] at hc ⊢;have e0:((m:Int)==0)=false:=by simp;omega
 have e1:((m:Int)-1).toNat=m-1:=by omega
 have i0:(0:Int)<=(m:Int)-1:=by omega
 clear hcl hr hbt hm
 go_enter func236,Tryz.ntmps236
 go_wp2
 go_loop [3,4] (fun n x=>∃ k:Nat,n=.int .i64 (32*(m-1)+k:Nat)/\x=.int .u32 (bt/2^k:Nat)/\Hid (k=0\/2^(k-1)<=bt)/\k<=32) (fun n x=>(intOf x).toNat)
 case atStart=>exact⟨0,by go_num,by simp,hid (.inl rfl),by omega⟩
 case round =>
  obtain⟨k,rfl,rfl,hk,hk32⟩:=hrel;obtain⟨x,hx⟩:∃ x,x=bt/2^k:=⟨_,rfl⟩
  rw[<-hx];have hx2:x<4294967296:=by rw[hx];exact Nat.lt_of_le_of_lt (Nat.div_le_self _ _) ht.2
  have HX:=hid hx;clear hx
  by_cases h0:0<x
  .have hle:2^k<=bt:=by
    rcases Nat.lt_or_ge bt (2^k) with h|h
    .have:=HX.out;rw[Nat.div_eq_of_lt h] at this;omega
    .exact h
   have hk31:k<32:=by
    rcases Nat.lt_or_ge k 32 with h|h
    .exact h
    .have:2^32<=2^k:=Nat.pow_le_pow_right (by decide) h;omega
   have HL:Hid (k+1=0\/2^(k+1-1)<=bt):=hid (.inr (by simpa using hle));have HD:Hid (x/2=bt/2^(k+1)):=hid (by rw[HX.out,Nat.pow_succ,Nat.div_div_eq_div_mul]);clear hle
   go_wp2
   go_round
   case rel=>exact⟨k+1,by go_num,by rw[<-HD.out];go_num,HL,by omega⟩
   case measure=>simp[intOf];omega
  .obtain rfl:x=0:=by omega
   have hlt:bt<2^k:=by
    rcases Nat.lt_or_ge bt (2^k) with h|h
    .exact h
    .have:=Nat.div_pos h (Nat.two_pow_pos k);have:=HX.out;omega
   have hk0:0<k:=by
    rcases Nat.eq_zero_or_pos k with h|h
    .subst h;simp at hlt;omega
    .exact h
   have HR:Hid (2^(k-1)<=bt/\bt<2^k):=hid ⟨hk.out.resolve_left (by omega),hlt⟩;clear hlt
   go_wp2
   go_ret
   exact⟨⟨k,hk0,hk32,HR.out.1,HR.out.2,rfl⟩,rfl⟩
def Kub(cur:List Nat)(bu L j n g V W:Nat)(hL:cur.length=L)(oc:WOk cur)(hV:(Qad V).length=n)(hj:j+n+1<=L)(hg:g<4294967296)(hW:wv ((cur.drop j).take (n+1))=W)(pv:Option Addr)(cv:Nat)(w:World)(hu:Blk w bu cur)(hv:WSl w (.slice pv n cv) (Qad V))(hn:L<549755813888) :
  Calls prog 245 #[.slice (some ⟨bu,0,none⟩) L L,.slice pv n cv,.int .i64 j,.int .u64 g] w fun e w'=>e=.returned (.bool (decide (g*V<=W)))/\Below w.heap.size w w':=by
 have H:=hid (And.intro hL (And.intro hV hW));have HV:=hid hv;have ow:WOk [g]:=by rw[Qet];exact⟨hg,Qhg⟩
 have hp:=fun(w1:World) (h1:Below w.heap.size w w1)=>Qqw [g] (Qad V) (.slice (some ⟨w1.heap.size,0,none⟩) 1 1) (.slice pv n cv) (w1.alloc (.cells #[.int .u32 (g:Int)] 233)) ow (Qas V) ((Kha w1 g).wsl (k:=1) (cap:=1) (by simp) (by omega)) ((hv.below h1).below (br.alloc lr _)) (by simp) (by omega)
 have ew:wv [g]=g:=by simp[wv]
 rw[Qaq,ew] at hp;have HP:=hid (hp w br);have gm:(g:Int)%4294967296=(g:Int):=by omega
 have hx:=fun(w1:World) (hb:Blk w1 bu cur)=>Qgk ((cur.drop j).take (n+1)) (.slice (some ⟨bu,j,none⟩) (n+1) (L-j)) w1 (Qfs (Qkn oc j) _) (by
  have hl:((cur.drop j).take (n+1)).length=n+1:=by simp;omega
  refine⟨some ⟨bu,j,none⟩,L-j,by rw[hl],by omega,fun _=>⟨bu,j,rfl,hb.lt,fun t ht=>?_⟩⟩;rw[hl] at ht;rw[hb.cell (by omega),List.getElem?_take_of_lt ht,List.getElem?_drop]) (by simp;omega)
 rw[hW] at hx;have HX:=hid hx;have HU:=hid hu;clear hL hV hW hv hp hx hu ow
 go_enter func245,Tryz.ntmps245
 go_wp2_with (refine HP.out.mono ?_;rintro e w1 ⟨v,rfl,hv1,hb1⟩)
 rw[show j+n+1-j=n+1 by omega];have hbW:Below w.heap.size w w1:=(br.alloc lr _).trans (hb1.mono (by simp));refine(HX.out w1 (HU.out.below hbW)).mono ?_;rintro e w2 ⟨v2,rfl,hv2,rfl⟩;have hun:=hid (Qjt (g*V) W v v2 w1 hv1 hv2 (by
  have h1:=Qak (n:=g*V) (k:=1+n) (by
   have h2:=Qcc V;rw[H.out.2.1] at h2;rw[Nat.pow_add,Nat.pow_one];exact Nat.mul_lt_mul'' hg h2)
  omega))
 have HC:Hid (decide (Qgh (g*V) W<=0)=decide (g*V<=W)):=hid (by
  unfold Qgh;rcases Nat.lt_trichotomy (g*V) W with h|h|h
  .rw[if_pos h];simp;omega
  .rw[if_neg (by omega),if_neg (by omega)];simp;omega
  .rw[if_neg (by omega),if_pos h];simp;omega)
 obtain⟨z,hz⟩:∃ z,z=Qgh (g*V) W:=⟨_,rfl⟩
 rw[<-hz] at hun HC;clear hz
 go_wp2_with (refine hun.out.mono ?_;rintro e w' ⟨rfl,d,rfl⟩)
 go_ret
 rw[<-HC.out];exact⟨rfl,Qbv hbW d⟩
