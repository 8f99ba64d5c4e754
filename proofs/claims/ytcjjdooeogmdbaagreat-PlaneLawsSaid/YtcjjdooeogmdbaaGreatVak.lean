/- Laws. -/
import Derived.Test.YtcjjdooeogmdbaaGreatVaj
import Derived.OwnWalk
import Derived.OneCell
import Derived.Maps.AppendAt
set_option linter.all false
set_option maxHeartbeats 4000000
set_option maxRecDepth 100000
open Go.Lib (hid)
namespace Go.Proofs.YtcjjdooeogmdbaaGreat
open Go.RowKit Tr Proofs.Tryz
def Ubb(l:List Nat)(n:Nat)(hn:l.length=n)(ol:WOk l)(p:Option Addr)(c:Nat)(w:World)(hl:Row w p l)(hc:n<=c)(hm:n<1099511627776) :
  Calls prog 220 #[.slice p n c] w fun e w'=>∃ k,k<=n/\l.take k=Qad (wv l)/\e=.returned (.slice p k c)/\w=w':=by
 have H:=hid hn;have HL:=hid hl;have hs:∀ k:Nat,k<=n->Hid (∀ j,k<=j->j<l.length->l[j]?.getD 0=0)->(k=0\/l[k-1]?.getD 0≠0)->l.take k=Qad (wv l):=fun k hk hz hl=>Qxd (by omega) ol hz.out hl
 have HS:=hid hs;clear hl hn hs
 go_enter func220,Tryz.ntmps220
 go_wp2
 go_loop [3] (fun v=>∃ k:Nat,k<=n/\v=.int .i64 k/\Hid (∀ j,k<=j->j<l.length->l[j]?.getD 0=0)) (fun v=>(intOf v).toNat)
 case atStart =>
  exact⟨n,Nat.le_refl _,rfl,hid (fun j h1 h2=>by have:=H.out;omega)⟩
 case round =>
  obtain⟨k,hk,rfl,hz⟩:=hrel;cases k with
  | zero =>
   go_wp2
   go_ret
   exact⟨0,Nat.zero_le _,HS.out 0 (Nat.zero_le _) hz (.inl rfl),rfl,rfl⟩
  | succ m =>
   obtain⟨b,off,rfl,_,hcl⟩:=HL.out (by intro h;have:=H.out;rw[h] at this;simp at this;omega);have hc0:=hcl m (by have:=H.out;omega);clear hcl;have e0:((m+1:Nat):Int)=(m:Int)+1:=by omega
   by_cases h0:l[m]?.getD 0=0
   .have hz':Hid (∀ j,m<=j->j<l.length->l[j]?.getD 0=0):=hid (fun j h1 h2=>by
     by_cases h:j=m
     .rw[h];exact h0
     .exact hz.out j (by omega) h2)
    have hb:(((l[m]?.getD 0:Nat):Int)==0)=true:=by rw[h0];rfl
    clear h0
    go_wp2
    go_round
    case rel=>exact⟨m,by omega,rfl,hz'⟩
    case measure=>simp[intOf]
   .have hb:(((l[m]?.getD 0:Nat):Int)==0)=false:=by simp;exact h0
    have ht:=HS.out (m+1) hk hz (.inr (by simpa using h0));have HT:=hid ht;clear h0 ht
    go_wp2
    go_ret
    exact⟨m+1,hk,HT.out,by simp,rfl⟩
def Qgk(l:List Nat)(v:Value)(w:World)(ol:WOk l)(hl:WSl w v l)(hm:l.length<1099511627776) :
  Calls prog 220 #[v] w fun e w'=>∃ v',e=.returned v'/\WSl w v' (Qad (wv l))/\w=w':=by
 obtain⟨p,c,rfl,hc,hl⟩:=hl;refine(Ubb l _ rfl ol p c w hl hc hm).mono ?_;rintro e w' ⟨k,h1,h2,rfl,rfl⟩;have h3:(l.take k).length=k:=by simp;omega
 refine⟨_,rfl,?_,rfl⟩;rw[<-h2];refine⟨p,c,by rw[h3],by omega,fun hne=>?_⟩;obtain⟨b,off,h4,h5,h6⟩:=hl (by intro h;rw[h] at hne;simp at hne);refine⟨b,off,h4,h5,fun j hj=>?_⟩;rw[h3] at hj;rw[h6 j (by omega),List.getElem?_take_of_lt hj]
def Qqd(l:List Nat)(v:Value)(i:Nat)(w:World)(ol:WOk l)(hl:WSl w v l) :
  Calls prog 246 #[v,.int .i64 i] w fun e w'=>e=.returned (.int .u64 (wat l i))/\w=w':=by
 obtain⟨p,c,rfl,hc,hl⟩:=hl;obtain⟨n,hn⟩:∃ n,l.length=n:=⟨_,rfl⟩
 rw[hn] at hc ⊢
 by_cases h:i<n
 .obtain⟨b,off,rfl,_,hcl⟩:=hl (by intro h;rw[h] at hn;simp at hn;omega);have hc0:=hcl i (by omega);obtain⟨x,hx0⟩:∃ x,x=wat l i:=⟨_,rfl⟩
  have hx:x<4294967296:=by rw[hx0];exact Qci ol i
  rw[show l[i]?.getD 0=x from hx0.symm] at hc0;rw[<-hx0];clear hcl hl hx0
  go_enter func246,Tryz.ntmps246
  go_wp2
  go_ret
  exact⟨rfl,rfl⟩
 .have HE:Hid (wat l i=0):=hid (Qih (by omega));clear hl
  go_enter func246,Tryz.ntmps246
  go_wp2
  go_ret
  exact⟨by rw[HE.out];rfl,rfl⟩
def Kuq(la lb:List Nat)(n:Nat)(hna:la.length=n)(hnb:lb.length=n)(oa:WOk la)(ob:WOk lb)(pa pb:Option Addr)(ca cb:Nat)(w:World)(ha:Row w pa la)(hb:Row w pb lb)(hn:n<1099511627776) :
  Calls prog 210 #[.slice pa n ca,.slice pb n cb] w fun e w'=>e=.returned (.int .i64 (Qgh (wv la) (wv lb)))/\∃ n,w'=w.drewN n:=by
 have H:=hid (And.intro hna hnb);have HA:=hid ha;have HB:=hid hb;clear ha hb hna hnb
 go_enter func210,Tryz.ntmps210
 go_wp2
 go_loopw [5] (fun i wr=>∃ k:Nat,k<=n/\i=.int .i64 ((k:Int)-1)/\Hid (la.drop k=lb.drop k)/\∃ d,wr=w.drewN d) (fun i _=>(intOf i+1).toNat)
 case atStart =>
  refine⟨n,Nat.le_refl _,rfl,hid ?_,0,rfl⟩;obtain⟨h1,h2⟩:=H.out;rw[List.drop_eq_nil_of_le (by omega),List.drop_eq_nil_of_le (by omega)]
 case round =>
  obtain⟨k,hk,rfl,hd,d,rfl⟩:=hrel;cases k with
  | zero =>
   have hz:Hid (Qgh (wv la) (wv lb)=0):=hid (by rw[Kix hd.out];exact Kit _)
   go_wp2
   go_ret
   exact⟨Qfw hz.out.symm,d,rfl⟩
  | succ m =>
   have e:((m+1:Nat):Int)-1=(m:Int):=by omega
   rw[e];clear e;obtain⟨h1,h2⟩:=H.out;obtain⟨ba,oa',rfl,_,hca⟩:=HA.out (by intro h;rw[h] at h1;simp at h1;omega);obtain⟨bb,ob',rfl,_,hcb⟩:=HB.out (by intro h;rw[h] at h2;simp at h2;omega);have ca0:=hca m (by omega);have cb0:=hcb m (by omega);have HD:=hid (And.intro h1 h2);clear hca hcb h1 h2;have i0:(0:Int)<=(m:Int):=by omega
   have i1:(m:Int)<(n:Int):=by omega
   have hx:∀ x y:Nat,x<y->((x:Int)<(y:Int)):=fun x y h=>by omega
   rcases Nat.lt_trichotomy (la[m]?.getD 0) (lb[m]?.getD 0) with h|h|h
   .have h':=hx _ _ h;have hz:Hid (Qgh (wv la) (wv lb)=-1):=hid (Kiq (by have:=HD.out;omega) (by have:=HD.out;omega) oa hd.out h);clear h hx
    go_wp2
    go_quiet (fail)
    go_wp2
    go_ret
    exact⟨Qfw hz.out.symm,by first|exact⟨_,rfl⟩|(simp only[World.drewN_drewN];exact⟨_,rfl⟩)⟩
   .have hz:Hid (la.drop m=lb.drop m):=hid (Kbo (by have:=HD.out;omega) (by have:=HD.out;omega) hd.out h);have h1:¬((la[m]?.getD 0:Nat):Int)<((lb[m]?.getD 0:Nat):Int):=by omega
    have h2:¬((lb[m]?.getD 0:Nat):Int)<((la[m]?.getD 0:Nat):Int):=by omega
    clear h hx
    go_wp2
    go_quiet (fail)
    go_wp2
    go_quiet (fail)
    go_wp2
    go_roundw
    case rel=>exact⟨m,by omega,rfl,hz,by first|exact⟨_,rfl⟩|(simp only[World.drewN_drewN];exact⟨_,rfl⟩)⟩
    case measure=>simp[intOf]
   .have h':=hx _ _ h;have h1:¬((la[m]?.getD 0:Nat):Int)<((lb[m]?.getD 0:Nat):Int):=by omega
    have hz:Hid (Qgh (wv la) (wv lb)=1):=hid (Kis (by have:=HD.out;omega) (by have:=HD.out;omega) ob hd.out h);clear h hx
    go_wp2
    go_quiet (fail)
    go_wp2
    go_quiet (fail)
    go_wp2
    go_ret
    exact⟨Qfw hz.out.symm,by first|exact⟨_,rfl⟩|(simp only[World.drewN_drewN];exact⟨_,rfl⟩)⟩
def Qjt(a b:Nat)(va vb:Value)(w:World)(ha:WSl w va (Qad a))(hb:WSl w vb (Qad b))(hla:(Qad a).length<1099511627776) :
  Calls prog 210 #[va,vb] w fun e w'=>e=.returned (.int .i64 (Qgh a b))/\∃ n,w'=w.drewN n:=by
 obtain⟨pa,ca,rfl,hca,ha⟩:=ha;obtain⟨pb,cb,rfl,hcb,hb⟩:=hb;rcases Nat.lt_trichotomy (Qad a).length (Qad b).length with h|h|h
 .have hz:Qgh a b=-1:=by unfold Qgh;rw[if_pos (Qed h)]
  go_enter func210,Tryz.ntmps210
  go_wp2
  go_ret
  exact⟨Qfw hz.symm,0,rfl⟩
 .rw[<-h] at hb ⊢;have:=Kuq (Qad a) (Qad b) _ rfl h.symm (Qas a) (Qas b) pa pb ca cb w ha (fun hne=>by obtain⟨b,off,h1,h2,h3⟩:=hb hne;exact⟨b,off,h1,h2,fun j hj=>h3 j (by omega)⟩) hla;rwa[Qaq,Qaq] at this
 .have hz:Qgh a b=1:=by unfold Qgh;rw[if_neg (by have:=Qed h;omega),if_pos (Qed h)]
  go_enter func210,Tryz.ntmps210
  go_wp2
  go_ret
  exact⟨Qfw hz.symm,0,rfl⟩
end Go.Proofs.YtcjjdooeogmdbaaGreat
namespace Tr
def Uhk{P a b o c:Nat}(h1:a<P)(h2:b<P)(h:o+P*4294967296*c=a+b):c=0:=by
 rcases Nat.eq_zero_or_pos c with h0|h0
 .exact h0
 .have h3:P*4294967296*1<=P*4294967296*c:=Nat.mul_le_mul_left _ h0;generalize P*4294967296*c=Q at *
  omega
def Kui{out la lb:List Nat}{n c:Nat}(ho:out.length=n+1)(oa:WOk la)(ob:WOk lb)(ha:la.length<=n)(hb:lb.length<=n)(h:wv (out.take (n+1))+4294967296^(n+1)*c=wv (la.take (n+1))+wv (lb.take (n+1))):wv out=wv la+wv lb:=by
 rw[List.take_of_length_le (Nat.le_of_eq ho),List.take_of_length_le (Nat.le_succ_of_le ha),List.take_of_length_le (Nat.le_succ_of_le hb),Nat.pow_succ] at h;have h1:=Nat.lt_of_lt_of_le (Qil oa) (Nat.pow_le_pow_right (by decide) ha);have h2:=Nat.lt_of_lt_of_le (Qil ob) (Nat.pow_le_pow_right (by decide) hb);have hc:=Uhk h1 h2 h;rw[hc,Nat.mul_zero,Nat.add_zero] at h;exact h
end Tr
namespace Go.Proofs.YtcjjdooeogmdbaaGreat
open Go.RowKit Tr Proofs.Tryz
def Kuj(la lb:List Nat)(n m M:Nat)(hna:la.length=n)(hnb:lb.length=m)(hM:M=n/\¬n<m\/M=m/\n<m)(oa:WOk la)(ob:WOk lb)(va vb:Value)(w:World)(ha:WSl w va la)(hb:WSl w vb lb)(hn:M<549755813888) :
  Calls prog 234 #[va,vb] w fun e w'=>∃ v,e=.returned v/\WSl w' v (Qad (wv la+wv lb))/\Below w.heap.size w w':=by
 have HA:=hid ha;have HB:=hid hb;obtain⟨pa,ca,rfl,hca,_⟩:=ha;obtain⟨pb,cb,rfl,hcb,_⟩:=hb;rw[hna] at HA ⊢;rw[hnb] at HB ⊢;have H:=hid (And.intro hna hnb);have hmk:=Qhs (M+1) (by omega);have en:((M+1:Nat):Int)=(M:Int)+1:=by omega
 rw[en] at hmk;clear hna hnb en hca hcb;rcases hM with⟨rfl,hlt⟩|⟨rfl,hlt⟩
 all_goals (
  go_enter func234,Tryz.ntmps234
  go_wp2
  go_loopw [7,8] (fun c i wr=>∃(k cr:Nat) (out:List Nat),k<=M+1/\i=.int .i64 k/\c=.int .u64 cr/\cr<=1/\Hid (out.length=M+1)/\WOk out/\Hid (wv (out.take k)+4294967296^k*cr=wv (la.take k)+wv (lb.take k))/\Blk wr w.heap.size out/\Below w.heap.size w wr)
   (fun _ i _=>M+1-(intOf i).toNat)
  case atStart =>
   exact⟨0,0,List.replicate (M+1) 0,Nat.zero_le _,rfl,rfl,by omega,hid (by simp),Qbr _,hid (by simp[wv]),Blk.new _ _,br.alloc lr _⟩
  case round =>
   obtain⟨k,cr,out,hk,rfl,rfl,hcr,hlo,oo,hinv,hblk,hB⟩:=hrel
   by_cases hlt2:k<M+1
   .have c1:=hblk.cell (i:=k) (by have:=hlo.out;omega);have c2:=hblk.frozen k;have bx:wat la k<4294967296:=Qci oa k;have by_:wat lb k<4294967296:=Qci ob k;have hx:=hid (Qqd la _ k wr oa (HA.out.below hB));have hy:=hid (Qqd lb _ k wr ob (HB.out.below hB));have e1:((cr:Int)+(wat la k:Nat)+(wat lb k:Nat))%4294967296=((cr+wat la k+wat lb k)%4294967296:Nat):=by omega
    have e2:((cr:Int)+(wat la k:Nat)+(wat lb k:Nat))/4294967296=((cr+wat la k+wat lb k)/4294967296:Nat):=by omega
    have E:=hid (And.intro e1 e2);have hst:=hid (Qjo (by have:=hlo.out;omega) hinv.out);have hcr':(cr+wat la k+wat lb k)/4294967296<=1:=by omega
    clear e1 e2
    go_wp2_with (first|(with_reducible refine hx.out.mono ?_;rintro e w' ⟨rfl,rfl⟩)|(with_reducible refine hy.out.mono ?_;rintro e w' ⟨rfl,rfl⟩))
    go_roundw
    case rel =>
     rw[E.out.1,E.out.2];exact⟨k+1,_,_,by omega,by go_num,rfl,hcr',hid (by have:=hlo.out;simpa using this),Qdb oo k _ (Nat.mod_lt _ (by decide)),hst,hblk.set k _,hB.setCell (p:=⟨w.heap.size,k,none⟩) lr _⟩
    case measure=>simp[intOf];omega
   .obtain rfl:k=M+1:=by omega
    have hfin:=hid (Kui hlo.out oa ob (by have:=H.out;omega) (by have:=H.out;omega) hinv.out);have hcut:=hid (Qgk out _ wr oo (hblk.wsl (k:=M+1) (cap:=M+1) (by have:=hlo.out;omega) lr |> fun x=>by rwa[List.take_of_length_le (by have:=hlo.out;omega)] at x) (by have:=hlo.out;omega))
    go_wp2_with (refine hcut.out.mono ?_;rintro e w' ⟨v,rfl,hv,rfl⟩)
    go_ret
    exact⟨v,rfl,by rw[<-hfin.out];exact hv,hB⟩)
def Kuh(la lb:List Nat)(va vb:Value)(w:World)(oa:WOk la)(ob:WOk lb)(ha:WSl w va la)(hb:WSl w vb lb)(hn:la.length<549755813888)(hm:lb.length<549755813888) :
  Calls prog 234 #[va,vb] w fun e w'=>∃ v,e=.returned v/\WSl w' v (Qad (wv la+wv lb))/\Below w.heap.size w w' :=
 Kuj la lb _ _ (max la.length lb.length) rfl rfl (by omega) oa ob va vb w ha hb (by omega)
def Qxa(x y c:Nat)(hx:x<4294967296)(hy:y<4294967296)(hc:c<=1):∃ d e:Nat,d<4294967296/\e<=1/\x+4294967296*e=d+y+c/\(4294967296+(x:Int)-(y:Int)-(c:Int))%4294967296=(d:Int)/\1-(4294967296+(x:Int)-(y:Int)-(c:Int))/4294967296=(e:Int):=by
 by_cases h:y+c<=x
 .exact⟨x-y-c,0,by omega,by omega,by omega,by omega,by omega⟩
 .exact⟨4294967296+x-y-c,1,by omega,by omega,by omega,by omega,by omega⟩
def Kue(la lb:List Nat)(va vb:Value)(w:World)(oa:WOk la)(ob:WOk lb)(hle:wv lb<=wv la)(hll:lb.length<=la.length)(ha:WSl w va la)(hb:WSl w vb lb)(hn:la.length<1099511627776) :
  Calls prog 235 #[va,vb] w fun e w'=>∃ v,e=.returned v/\WSl w' v (Qad (wv la-wv lb))/\Below w.heap.size w w':=by
 have HA:=hid ha;have HB:=hid hb;obtain⟨n,hna⟩:∃ n,la.length=n:=⟨_,rfl⟩
 obtain⟨m,hnb⟩:∃ m,lb.length=m:=⟨_,rfl⟩
 obtain⟨pa,ca,rfl,hca,_⟩:=ha;obtain⟨pb,cb,rfl,hcb,_⟩:=hb;rw[hna] at HA ⊢ hn;rw[hnb] at HB ⊢;have H:=hid (And.intro hna (And.intro hnb (And.intro hle hll)));have hmk:=Qhs n (by omega);clear hna hnb hca hcb hle hll
 go_enter func235,Tryz.ntmps235
 go_wp2
 go_loopw [6,7,8] (fun c i _ wr=>∃(k cr:Nat) (out:List Nat),k<=n/\i=.int .i64 k/\c=.int .u64 cr/\cr<=1/\Hid (out.length=n)/\WOk out/\Hid (wv (out.take k)+wv (lb.take k)=wv (la.take k)+4294967296^k*cr)/\Blk wr w.heap.size out/\Below w.heap.size w wr)
  (fun _ i _ _=>n-(intOf i).toNat)
 case atStart =>
  exact⟨0,0,List.replicate n 0,Nat.zero_le _,rfl,rfl,by omega,hid (by simp),Qbr _,hid (by simp[wv]),Blk.new _ _,br.alloc lr _⟩
 case round =>
  obtain⟨k,cr,out,hk,rfl,rfl,hcr,hlo,oo,hinv,hblk,hB⟩:=hrel
  by_cases hlt2:k<n
  .have c1:=hblk.cell (i:=k) (by have:=hlo.out;omega);have c2:=hblk.frozen k;have bx:wat la k<4294967296:=Qci oa k;have by_:wat lb k<4294967296:=Qci ob k;have hx:=hid (Qqd la _ k wr oa (HA.out.below hB));have hy:=hid (Qqd lb _ k wr ob (HB.out.below hB));obtain⟨d,e,hd,he,hde,e1,e2⟩:=Qxa (wat la k) (wat lb k) cr bx by_ hcr;have E:=hid (And.intro e1 e2);have hst:=hid (Qsu (d:=d) (e:=e) (by have:=hlo.out;omega) hde hinv.out);clear e1 e2 hde
   go_wp2_with (first|(with_reducible refine hx.out.mono ?_;rintro e w' ⟨rfl,rfl⟩)|(with_reducible refine hy.out.mono ?_;rintro e w' ⟨rfl,rfl⟩))
   go_roundw
   case rel =>
    rw[E.out.1,E.out.2];exact⟨k+1,_,_,by omega,by go_num,rfl,he,hid (by have:=hlo.out;simpa using this),Qdb oo k _ hd,hst,hblk.set k _,hB.setCell (p:=⟨w.heap.size,k,none⟩) lr _⟩
   case measure=>simp[intOf];omega
  .obtain rfl:k=n:=by omega
   have hfin:=hid (Kjf hlo.out oo H.out.1 (by have:=H.out;omega) H.out.2.2.1 hinv.out);have hcut:=hid (Qgk out _ wr oo (hblk.wsl (k:=k) (cap:=k) (by have:=hlo.out;omega) lr |> fun x=>by rwa[List.take_of_length_le (by have:=hlo.out;omega)] at x) (by have:=hlo.out;omega))
   go_wp2_with (refine hcut.out.mono ?_;rintro e w' ⟨v,rfl,hv,rfl⟩)
   go_ret
   exact⟨v,rfl,by rw[<-hfin.out];exact hv,hB⟩
end Go.Proofs.YtcjjdooeogmdbaaGreat
namespace Tr
def Kcf{la l:List Nat}{q k s cr t:Nat}(hl:l.length=q+k)(ht:t=cr+la[k]?.getD 0*2^s)(h:wv l+4294967296^(q+k)*cr=4294967296^q*(wv (la.take k)*2^s)) :
  wv (l++[t%4294967296])+4294967296^(q+(k+1))*(t/4294967296)=4294967296^q*(wv (la.take (k+1))*2^s):=by
 have h2:=Qsw (4294967296^(q+k)) t;rw[Qul,hl,Qfd,show q+(k+1)=q+k+1 by omega,Nat.pow_succ,Nat.add_mul,Nat.mul_add,<-h];have h3:4294967296^q*(4294967296^k*wat la k*2^s)=4294967296^(q+k)*(wat la k*2^s):=by
  rw[Nat.pow_add];simp only[Nat.mul_assoc]
 have h4:4294967296^(q+k)*t=4294967296^(q+k)*cr+4294967296^(q+k)*(wat la k*2^s):=by rw[ht,Nat.mul_add];rfl
 rw[h3];omega
def Kjd{la l:List Nat}{q n s N cr:Nat}(hl:l.length=q+n)(hn:la.length=n)(hq:N/32=q)(hs:N%32=s)(h:wv l+4294967296^(q+n)*cr=4294967296^q*(wv (la.take n)*2^s)) :
  wv (l++[cr])=wv la*2^N:=by
 rw[List.take_of_length_le (by omega)] at h;have e:(2:Nat)^N=4294967296^q*2^s:=by
  rw[show(4294967296:Nat)=2^32 by decide,<-Nat.pow_mul,<-Nat.pow_add];congr 1;omega
 rw[Qul,hl,h,e];simp only[Nat.mul_left_comm]
end Tr
namespace Go.Proofs.YtcjjdooeogmdbaaGreat
open Go.RowKit Tr Proofs.Tryz
def Ktw(l c:Nat)(hl:l<=c)(hn:c<4398046511104)(w:World):(Instr.makeSlice 176 (.int .i64 (l:Int)) (.int .i64 (c:Int))).run prog w
  = .ok (.slice (some ⟨w.heap.size,0,none⟩) l c) (w.alloc (.cells (Qmo (List.replicate c 0)) 233)):=by
 obtain⟨i,hi,hz,hs,hb⟩:=info_parts Qiv;have:=run_make (P:=prog) w 176 233 i (.int .u32 0) Tryz.underlying176 hi hz .i64 .i64 l c (by omega) (by omega) (by rw[hb];omega) (by omega);rw[this,hs,Int.toNat_natCast,Int.toNat_natCast,Kch]
def Own(w:World)(B m:Nat)(l:List Nat)(cap:Nat):Prop:=w.ownsRow B 233 1 (.slice (some ⟨B,0,none⟩) m cap) m (l.map fun x:Nat=>Value.int .u32 (x:Int))
def Own.length{w:World}{B m cap:Nat}{l:List Nat}(h:Own w B m l cap):l.length=m:=by
 have:=h.1;simpa using this
def Own.new(w:World)(k c:Nat)(hk:k<=c)(hc:c<4398046511104):Own (w.alloc (.cells (Qmo (List.replicate c 0)) 233)) w.heap.size k (List.replicate k 0) c:=by
 refine⟨by simp,.inr ⟨w.heap.size,c,_,by simp,Nat.le_refl _,heap_alloc_new w _,by simpa using hk,by unfold maxLen;omega,by simp[Qmo],?_⟩⟩;simp[Qmo,List.take_replicate,Nat.min_eq_left hk]
def Own.wsl{w:World}{B m cap:Nat}{l:List Nat}(h:Own w B m l cap):WSl w (.slice (some ⟨B,0,none⟩) m cap) l:=by
 have h0:=h.length;obtain⟨h1,h2|⟨g,cap',cur,h2,h3,h4,h5,h6,h7,h8⟩⟩:=h
 .simp at h2
 .simp at h2;obtain⟨rfl,rfl⟩:=h2;refine⟨some ⟨B,0,none⟩,cap,by rw[h0],by omega,fun _=>⟨B,0,rfl,(Array.getElem?_eq_some_iff.1 h4).1,fun j hj=>?_⟩⟩;have h9:(cur.toList.take (m*1))[j]?=some (.int .u32 (l[j]?.getD 0:Nat)):=by rw[h8];simp[hj]
  rw[List.getElem?_take_of_lt (by omega)] at h9;simp at h9;simp[World.cell?,h4,h9]
def Own.more{w:World}{B m cap x:Nat}{l:List Nat}(h:w.ownsRow B 233 1 (.slice (some ⟨B,0,none⟩) (m+1) cap) (m+1) ((l.map fun x:Nat=>Value.int .u32 (x:Int))++[.int .u32 (x:Int)])):Own w B (m+1) (l++[x]) cap:=by
 unfold Own;simpa using h
def Unk{x y k:Nat}(hy:y<2^k)(h:y+x*2^k<18446744073709551616):bits BinOp.or .u64 (y:Int) (IntKind.u64.wrap ((x:Int)*2^k))=((y+x*2^k:Nat):Int):=by
 have e:IntKind.u64.wrap ((x:Int)*2^k)=((x*2^k:Nat):Int):=by
  have:((x*2^k:Nat):Int)=(x:Int)*2^k:=by simp
  rw[<-this];show((x*2^k:Nat):Int)%18446744073709551616=_;omega
 rw[e,bits_or_u64_nat _ _ (by omega) (by omega),Nat.or_comm,Nat.mul_comm,<-Nat.two_pow_add_eq_or_of_lt hy,Nat.add_comm]
def Ksn(la:List Nat)(n N q s:Nat)(hna:la.length=n)(oa:WOk la)(hq:N/32=q)(hs:N%32=s)(pa:Option Addr)(ca:Nat)(w:World)(ha:Row w pa la)(hn:n<549755813888)(hN:N<1099511627776) :
  Calls prog 254 #[.slice pa n ca,.int .i64 N] w fun e w'=>∃ v,e=.returned v/\WSl w' v (Qad (wv la*2^N))/\Below w.heap.size w w':=by
 have H:=hid hna;have HA:=hid ha;have hmk:=Ktw q (q+n+1) (by omega) (by omega);have en:((q+n+1:Nat):Int)=(q:Int)+n+1:=by omega
 rw[en] at hmk;have e1:(N:Int).tdiv 32=(q:Int):=by rw[Int.tdiv_eq_ediv_of_nonneg (by omega)];omega
 clear ha hna en
 go_enter func254,Tryz.ntmps254
 go_wp2_with fail
 go_loopw [5,6,8,20] (fun v c _ i wr=>∃(k cr:Nat) (l:List Nat),k<=n/\i=.int .i64 k/\c=.int .u64 cr/\cr<2^s/\v=.slice (some ⟨w.heap.size,0,none⟩) (q+k) (q+n+1)/\WOk l/\Hid (wv l+4294967296^(q+k)*cr=4294967296^q*(wv (la.take k)*2^s))/\Own wr w.heap.size (q+k) l (q+n+1)/\Below w.heap.size w wr)
  (fun _ _ _ i _=>n-(intOf i).toNat)
 case atStart =>
  exact⟨0,0,List.replicate q 0,Nat.zero_le _,rfl,rfl,Nat.two_pow_pos s,rfl,Qbr _,hid (by rw[Qfa];simp[wv]),Own.new _ _ _ (by omega) (by omega),br.alloc lr _⟩
 case round =>
  obtain⟨k,cr,l,hk,rfl,rfl,hcr,rfl,ol,hinv,hown,hB⟩:=hrel
  by_cases hlt2:k<n
  .obtain⟨b,off,rfl,hbs,hcl⟩:=HA.out (by intro h;have:=H.out;rw[h] at this;simp at this;omega);have c0:=(hB.cell (p:=⟨b,off+k,none⟩) hbs).trans (hcl k (by have:=H.out;omega));have bx:la[k]?.getD 0<4294967296:=Qci oa k;have e2:(N:Int).tmod 32=(s:Int):=by rw[Int.tmod_eq_emod_of_nonneg (by omega)];omega
   have hs32:s<32:=by omega
   have hp:(2:Nat)^s<=2^31:=Nat.pow_le_pow_right (by decide) (by omega);obtain⟨t,ht⟩:∃ t:Nat,t=cr+la[k]?.getD 0*2^s:=⟨_,rfl⟩
   have ht1:t<4294967296*2^s:=by
    have:(la[k]?.getD 0+1)*2^s<=4294967296*2^s:=Nat.mul_le_mul_right _ bx;rw[Nat.add_mul] at this;omega
   have ht2:t<18446744073709551616:=by omega
   have hor:=Unk (x:=la[k]?.getD 0) hcr (by omega);rw[<-ht] at hor;have hcr2:t/4294967296<2^s:=Nat.div_lt_of_lt_mul ht1;have hst:=hid (Kcf (la:=la) hown.length ht hinv.out);obtain⟨i0,hi,hz0,hz1,hz2⟩:=info_parts Qiv;have HE:Hid ((t:Int)%4294967296=((t%4294967296:Nat):Int)):=hid (by omega);clear hcl ht ht1
   go_wp2_with (first|(at_builtin;rw[HE.out];refine wpList_append_fits _ rfl (.tmp 31) (.tmp 34) 176 rfl w.heap.size 233 i0 1 Tryz.underlying176 hi hz1 w.heap.size (q+k) (q+n+1) _ rfl (hown.alloc _) ⟨wr.heap.size,0,none⟩ 1 1 [.int .u32 ((t%4294967296:Nat):Int)] rfl rfl (cell_one_new _ _ _) (ints_oneCell .u32 [((t%4294967296:Nat):Int)]) (by omega) ?_;intro w4 hown4 hgrow4))
   have hB4:Below w.heap.size w w4:=(hB.alloc hB.size _).grown hgrow4 (by have:=hB.size;simp;omega) (fun k e=>by cases e;exact Nat.le_refl _);refine⟨⟨k+1,_,l++[t%4294967296],by omega,by go_num,rfl,hcr2,rfl,?_,hst,Own.more hown4,hB4⟩,?_⟩
   .rw[Qhf];exact⟨ol,by rw[Qet];exact⟨Nat.mod_lt _ (by decide),Qhg⟩⟩
   .simp[intOf];omega
  .obtain rfl:n=k:=by omega
   have hp:(2:Nat)^s<=2^31:=Nat.pow_le_pow_right (by decide) (by omega);have hcr2:cr<4294967296:=by omega
   have hfin:=hid (Kjd hown.length H.out hq hs hinv.out);have ol2:WOk (l++[cr]):=by rw[Qhf];exact⟨ol,by rw[Qet];exact⟨hcr2,Qhg⟩⟩
   obtain⟨i0,hi,hz0,hz1,hz2⟩:=info_parts Qiv
   go_wp2_with (first
    | (at_builtin;refine wpList_append_fits _ rfl (.tmp 39) (.tmp 42) 176 rfl w.heap.size 233 i0 1 Tryz.underlying176 hi hz1 w.heap.size (q+n) (q+n+1) _ rfl (hown.alloc _) ⟨wr.heap.size,0,none⟩ 1 1 [.int .u32 (cr:Int)] rfl rfl (cell_one_new _ _ _) (ints_oneCell .u32 [(cr:Int)]) (by omega) ?_;intro w4 hown4 hgrow4;have hW:=(Own.more hown4).wsl)
    | (go_at_call 251;refine(Qpl _ _ _ ol2 hW (by rw[List.length_append,hown.length];simp;omega)).mono ?_;rintro e w' ⟨v,rfl,hv,rfl⟩))
   go_ret
   have hB4:Below w.heap.size w w4:=(hB.alloc hB.size _).grown hgrow4 (by have:=hB.size;simp;omega) (fun k e=>by cases e;exact Nat.le_refl _);exact⟨v,rfl,by rw[hfin.out] at hv;exact hv,hB4⟩
def Qyj(la:List Nat)(N:Nat)(va:Value)(w:World)(oa:WOk la)(ha:WSl w va la)(hn:la.length<549755813888)(hN:N<1099511627776) :
  Calls prog 254 #[va,.int .i64 N] w fun e w'=>∃ v,e=.returned v/\WSl w' v (Qad (wv la*2^N))/\Below w.heap.size w w':=by
 obtain⟨pa,ca,rfl,hca,ha⟩:=ha;exact Ksn la _ N _ _ rfl oa rfl rfl pa ca w ha hn hN
end Go.Proofs.YtcjjdooeogmdbaaGreat
namespace Tr
def Qcm(l:List Nat)(k:Nat):wv (l.drop k)=wat l k+4294967296*wv (l.drop (k+1)):=by
 by_cases h:k<l.length
 .rw[Khi h,Qxf h]
 .rw[Qih (by omega),List.drop_eq_nil_of_le (by omega),List.drop_eq_nil_of_le (by omega)];rfl
def Qeh(l:List Nat)(k:Nat)(hk:k<=l.length):wv l=wv (l.take k)+4294967296^k*wv (l.drop k):=by
 conv=>lhs;rw[<-List.take_append_drop k l]
 rw[Qjv];simp[Nat.min_eq_left hk]
def Qxl{l:List Nat}(h:WOk l)(k:Nat)(hk:k<=l.length):wv l/4294967296^k=wv (l.drop k):=by
 rw[Qeh l k hk];have h1:=Qil (Qfs h k);have h3:(l.take k).length=k:=by simp;omega
 rw[h3] at h1;rw[Nat.add_mul_div_left _ _ (Nat.lt_of_le_of_lt (Nat.zero_le _) h1),Nat.div_eq_of_lt h1,Nat.zero_add]
def Qww{x y z s:Nat}(hs:s<32):(x+4294967296*(y+4294967296*z))/2^s%4294967296=(x+y*4294967296)/2^s%4294967296:=by
 have e:(4294967296:Nat)*4294967296=2^s*(2^(32-s)*4294967296):=by
  rw[<-Nat.mul_assoc,<-Nat.pow_add];have:s+(32-s)=32:=by omega
  rw[this]
 have e2:x+4294967296*(y+4294967296*z)=(x+y*4294967296)+2^s*(2^(32-s)*4294967296*z):=by
  rw[<-Nat.mul_assoc (2^s),<-e,Nat.mul_add,<-Nat.mul_assoc];omega
 rw[e2,Nat.add_mul_div_left _ _ (Nat.two_pow_pos s)];have e3:2^(32-s)*4294967296*z=4294967296*(2^(32-s)*z):=by simp only[Nat.mul_assoc,Nat.mul_left_comm]
 rw[e3,Nat.add_mul_mod_self_left]
def Koe{l out:List Nat}{k s:Nat}(hl:WOk l)(hs:s<32)(hk:k<l.length)(ho:k<out.length)(h:wv (out.take k)=wv l/2^s%4294967296^k) :
  wv ((out.set k ((wat l k+wat l (k+1)*4294967296)/2^s%4294967296)).take (k+1))=wv l/2^s%4294967296^(k+1):=by
 rw[Qim ho,h,Nat.mod_pow_succ];congr 2;rw[Nat.div_div_eq_div_mul,Nat.mul_comm (2^s),<-Nat.div_div_eq_div_mul,Qxl hl k (by omega),Qcm,Qcm,Qww hs]
def Kdl{l out:List Nat}{n s:Nat}(hl:WOk l)(hn:l.length=n)(ho:out.length=n)(h:wv (out.take n)=wv l/2^s%4294967296^n):wv out=wv l/2^s:=by
 rw[List.take_of_length_le (by omega)] at h;rw[h];have:=Qil hl;rw[hn] at this;exact Nat.mod_eq_of_lt (Nat.lt_of_le_of_lt (Nat.div_le_self _ _) this)
def Kdj{l:List Nat}{q N s:Nat}(hl:WOk l)(hq:N/32=q)(hs:N%32=s)(hk:q<=l.length):wv (l.drop q)/2^s=wv l/2^N:=by
 rw[<-Qxl hl q hk,Nat.div_div_eq_div_mul];congr 1;rw[show(4294967296:Nat)=2^32 by decide,<-Nat.pow_mul,<-Nat.pow_add];congr 1;omega
def Qwv{l:List Nat}{q N:Nat}(hl:WOk l)(hq:N/32=q)(hk:l.length<=q):wv l/2^N=0:=by
 apply Nat.div_eq_of_lt;have:=Qil hl;rw[show(4294967296:Nat)=2^32 by decide,<-Nat.pow_mul] at this;exact Nat.lt_of_lt_of_le this (Nat.pow_le_pow_right (by decide) (by omega))
end Tr
namespace Go.Proofs.YtcjjdooeogmdbaaGreat
open Go.RowKit Tr Proofs.Tryz
def Ugn{x y:Nat}(hx:x<4294967296)(hy:y<4294967296):bits BinOp.or .u64 (x:Int) ((y:Int)*4294967296)=((x+y*4294967296:Nat):Int):=by
 have e:(y:Int)*4294967296=((y*4294967296:Nat):Int):=by simp
 rw[e,bits_or_u64_nat _ _ (by omega) (by omega),Nat.or_comm,Nat.mul_comm,show(4294967296:Nat)=2^32 by decide,<-Nat.two_pow_add_eq_or_of_lt (by omega),Nat.add_comm]
def Kof(la:List Nat)(n N q s:Nat)(hna:la.length=n)(oa:WOk la)(hq:N/32=q)(hs:N%32=s)(hqn:q<n)(b off:Nat)(ca:Nat)(hca:n<=ca)(w:World)(hbs:b<w.heap.size)(ha:∀ j,j<n->w.cell? ⟨b,off+j,none⟩=some (.int .u32 (la[j]?.getD 0:Nat)))(hn:n<1099511627776)(hN:N<1099511627776) :
  Calls prog 255 #[.slice (some ⟨b,off,none⟩) n ca,.int .i64 N] w fun e w'=>∃ v,e=.returned v/\WSl w' v (Qad (wv la/2^N))/\Below w.heap.size w w':=by
 have H:=hid hna;have HA:=hid ha;obtain⟨m,hm⟩:∃ m,n-q=m:=⟨_,rfl⟩
 have hmk:=Qhs m (by omega);have e1:(N:Int).tdiv 32=(q:Int):=by rw[Int.tdiv_eq_ediv_of_nonneg (by omega)];omega
 have e2:(N:Int).tmod 32=(s:Int):=by rw[Int.tmod_eq_emod_of_nonneg (by omega)];omega
 obtain⟨l,hl⟩:∃ l:List Nat,l=la.drop q:=⟨_,rfl⟩
 have ol:WOk l:=by rw[hl];exact Qkn oa q
 have HL:Hid (l.length=m):=hid (by rw[hl];simp;omega);have HC:Hid (∀ j,j<m->w.cell? ⟨b,off+q+j,none⟩=some (.int .u32 (l[j]?.getD 0:Nat))):=hid (fun j hj=>by
  rw[hl,List.getElem?_drop,Nat.add_assoc];exact ha (q+j) (by omega))
 have HF:Hid (wv l/2^s=wv la/2^N):=hid (by rw[hl];exact Kdj oa hq hs (by omega));clear ha hna hl HA
 go_enter func255,Tryz.ntmps255
 go_wp2_with fail
 go_loopw [6,7,8,23] (fun _ _ _ i wr=>∃(k:Nat) (out:List Nat),k<=m/\i=.int .i64 k/\Hid (out.length=m)/\WOk out/\Hid (wv (out.take k)=wv l/2^s%4294967296^k)/\Blk wr w.heap.size out/\Below w.heap.size w wr)
  (fun _ _ _ i _=>m-(intOf i).toNat)
 case atStart =>
  exact⟨0,List.replicate m 0,Nat.zero_le _,rfl,hid (by simp),Qbr _,hid (by simp[wv,Nat.mod_one]),Blk.new _ _,br.alloc lr _⟩
 case round =>
  obtain⟨k,out,hk,rfl,hlo,oo,hinv,hblk,hB⟩:=hrel;have hs32:s<32:=by omega
  by_cases hlt2:k<m
  .have c0:=(hB.cell (p:=⟨b,off+q+k,none⟩) hbs).trans (HC.out k hlt2);have c1:=hblk.cell (i:=k) (by have:=hlo.out;omega);have c2:=hblk.frozen k;have bx:l[k]?.getD 0<4294967296:=Qci ol k;have hst:=Koe (s:=s) (k:=k) ol hs32 (by have:=HL.out;omega) (by have:=hlo.out;omega) hinv.out
   by_cases hkm:k+1<m
   .have c3:=(hB.cell (p:=⟨b,off+q+(k+1),none⟩) hbs).trans (HC.out (k+1) hkm);have by_:l[k+1]?.getD 0<4294967296:=Qci ol (k+1);obtain⟨t,ht⟩:∃ t:Nat,t=wat l k+wat l (k+1)*4294967296:=⟨_,rfl⟩
    have hor:=Ugn bx by_;rw[<-ht] at hst;have ht':l[k]?.getD 0+l[k+1]?.getD 0*4294967296=t:=ht.symm;rw[ht'] at hor;have ht2:t<18446744073709551616:=by omega
    have HE:Hid ((t:Int)/2^s%4294967296=((t/2^s%4294967296:Nat):Int)):=hid (by simp);have HS:=hid hst;clear ht ht' hst
    go_wp2
    go_roundw
    case rel =>
     rw[HE.out];exact⟨k+1,_,by omega,by go_num,hid (by have:=hlo.out;simpa using this),Qdb oo _ _ (Nat.mod_lt _ (by decide)),HS,hblk.set _ _,hB.setCell (p:=⟨w.heap.size,k,none⟩) lr _⟩
    case measure=>simp[intOf];omega
   .have h0:wat l (k+1)=0:=Qih (by have:=HL.out;omega);obtain⟨t,ht⟩:∃ t:Nat,t=l[k]?.getD 0:=⟨_,rfl⟩
    have hst2:wv ((out.set k (t/2^s%4294967296)).take (k+1))=wv l/2^s%4294967296^(k+1):=by
     rw[h0] at hst;rw[ht];simpa[wat] using hst
    rw[<-ht] at c0 bx;have HE:Hid ((t:Int)/2^s%4294967296=((t/2^s%4294967296:Nat):Int)):=hid (by simp);have HS:=hid hst2;clear ht hst hst2 h0
    go_wp2
    go_roundw
    case rel =>
     rw[HE.out];exact⟨k+1,_,by omega,by go_num,hid (by have:=hlo.out;simpa using this),Qdb oo _ _ (Nat.mod_lt _ (by decide)),HS,hblk.set _ _,hB.setCell (p:=⟨w.heap.size,k,none⟩) lr _⟩
    case measure=>simp[intOf];omega
  .obtain rfl:m=k:=by omega
   have hfin:=hid (Kdl ol HL.out hlo.out hinv.out);have hW:=hblk.wsl (k:=m) (cap:=m) (by have:=hlo.out;omega) lr;rw[List.take_of_length_le (by have:=hlo.out;omega)] at hW
   go_wp2_with (go_at_call 251;refine(Qpl _ _ _ oo hW (by rw[hlo.out];omega)).mono ?_;rintro e w' ⟨v,rfl,hv,rfl⟩)
   go_ret
   exact⟨v,rfl,by rw[hfin.out,HF.out] at hv;exact hv,hB⟩
def Kdk(la:List Nat)(N:Nat)(va:Value)(w:World)(oa:WOk la)(ha:WSl w va la)(hn:la.length<1099511627776)(hN:N<1099511627776) :
  Calls prog 255 #[va,.int .i64 N] w fun e w'=>∃ v,e=.returned v/\WSl w' v (Qad (wv la/2^N))/\Below w.heap.size w w':=by
 obtain⟨pa,ca,rfl,hca,ha⟩:=ha
 by_cases h:N/32<la.length
 .obtain⟨b,off,rfl,h1,h2⟩:=ha (by intro h0;rw[h0] at h;simp at h);exact Kof la _ N _ _ rfl oa rfl rfl h b off ca hca w h1 h2 hn hN
 .have hz:=Qwv oa rfl (Nat.le_of_not_lt h);obtain⟨q,hq⟩:∃ q,N/32=q:=⟨_,rfl⟩
  obtain⟨n,hn'⟩:∃ n,la.length=n:=⟨_,rfl⟩
  rw[hz,Qax,hn'];rw[hn',hq] at h;have e1:(N:Int).tdiv 32=(q:Int):=by rw[Int.tdiv_eq_ediv_of_nonneg (by omega)];omega
  have hle:(n:Int)<=(q:Int):=by omega
  clear ha hca hz
  go_enter func255,Tryz.ntmps255
  go_wp2
  go_ret
  exact⟨_,rfl,WSl.nil w,Below.refl _ _⟩
