/- Laws. -/
import Derived.Test.YtmimficdpfmfgaaGreatWag
import Derived.Laws.Bits64b
import Derived.OwnWalk
import Derived.OneCell
import Derived.Maps.AppendAt
set_option linter.all false
set_option maxHeartbeats 4000000
set_option maxRecDepth 100000
open Go.Lib (hid)
namespace Tr
def Qut{l:List Nat}{i:Nat}(h:wv l<4294967296^i):wat l i=0:=by
 by_cases hi:i<l.length
 .have h1:=Qlb hi;rw[Qwt hi];rcases axh l[i] with h0|h0
  .exact h0
  .have:4294967296^i*1<=4294967296^i*(l[i]+4294967296*wv (l.drop (i+1))):=axl _ (by omega);omega
 .exact Qhk (by omega)
def Qwu{l:List Nat}{i k x:Nat}(h:i≠k):wat (l.set i x) k=wat l k:=by
 unfold wat;rw[axp h]
def Qoy{l:List Nat}{i:Nat}(h:i<l.length)(x:Nat):wv (l.set i x)+4294967296^i*wat l i=wv l+4294967296^i*x:=by
 rw[Qwt h];exact Usa h x
def Qqe{out lb:List Nat}{i k c x V:Nat}(ho:i+k<out.length)(h:wv out+4294967296^(i+k)*c=V+4294967296^i*(x*wv (lb.take k))) :
  wv (out.set (i+k) ((c+(x*wat lb k+wat out (i+k)))%4294967296))+4294967296^(i+(k+1))*((c+(x*wat lb k+wat out (i+k)))/4294967296)=V+4294967296^i*(x*wv (lb.take (k+1))):=by
 have h1:=Qoy ho ((c+(x*wat lb k+wat out (i+k)))%4294967296);have h2:=Qsi (4294967296^(i+k)) (c+(x*wat lb k+wat out (i+k)));rw[Qeo,show i+(k+1)=i+k+1 by omega,Nat.pow_succ];generalize (c+(x*wat lb k+wat out (i+k)))%4294967296=s at *
 generalize (c+(x*wat lb k+wat out (i+k)))/4294967296=t at *
 rw[Nat.mul_add,Nat.mul_add] at h2;have h3:4294967296^i*(x*(wv (lb.take k)+4294967296^k*wat lb k))=4294967296^i*(x*wv (lb.take k))+4294967296^(i+k)*(x*wat lb k):=by
  rw[Nat.mul_add,Nat.mul_add,Nat.pow_add];congr 1;simp only[Nat.mul_assoc,Nat.mul_left_comm]
 rw[h3];omega
def Qsx{out la lb:List Nat}{i m c:Nat}(ho:i+m<out.length)(hm:lb.length=m)(hz:wat out (i+m)=0)(h:wv out+4294967296^(i+m)*c=wv (la.take i)*wv lb+4294967296^i*(wat la i*wv (lb.take m))) :
  wv (out.set (i+m) c)=wv (la.take (i+1))*wv lb:=by
 have h1:=Qoy ho c;rw[hz] at h1;rw[axe (l:=lb) (by omega)] at h;rw[Qeo,Nat.add_mul,Nat.mul_assoc];omega
def Qqd{out la lb:List Nat}{i m:Nat}(oa:WOk la)(ob:WOk lb)(hm:lb.length=m)(hi:i<=la.length)(h:wv out=wv (la.take i)*wv lb):wat out (i+m)=0:=by
 apply Qut;have h1:=Qgu (Qen oa i);have h2:=Qgu ob;have h3:(la.take i).length=i:=by simp;omega
 rw[h3] at h1;rw[hm] at h2;rw[h,Nat.pow_add];exact Nat.mul_lt_mul'' h1 h2
def Qla{x y:Nat}(hx:x<4294967296)(hy:y<4294967296):(x:Int)*(y:Int)<=18446744065119617025/\0<=(x:Int)*(y:Int):=by
 have h:x*y<=4294967295*4294967295:=axr (by omega) (by omega);constructor
 .have:((x*y:Nat):Int)<=18446744065119617025:=by omega
  simpa using this
 .have:(0:Int)<=((x*y:Nat):Int):=by omega
  simpa using this
end Tr
namespace Go.Proofs.YtmimficdpfmfgaaGreat
open Go.RowKit Tr Proofs.Tryz
def Kbm(la lb:List Nat)(n m:Nat)(hna:la.length=n)(hnb:lb.length=m)(oa:WOk la)(ob:WOk lb)(pa pb:Option Addr)(ca cb:Nat)(w:World)(ha:Row w pa la)(hb:Row w pb lb)(hn:n<1099511627776)(hm:m<1099511627776) :
  Calls prog 266 #[.slice pa n ca,.slice pb m cb] w fun e w'=>∃ out,out.length=n+m/\WOk out/\wv out=wv la*wv lb/\e=.returned (.slice (some ⟨w.heap.size,0,none⟩) (n+m) (n+m))/\Blk w' w.heap.size out/\Below w.heap.size w w':=by
 have H:=hid (And.intro hna hnb);have HA:=hid ha;have HB:=hid hb;have hmk:=Qgr (n+m) (by omega);have en:((n+m:Nat):Int)=(n:Int)+m:=by omega
 rw[en] at hmk;clear ha hb hna hnb en
 go_enter func266,Tryz.ntmps266
 go_wp2
 go_loopw [6,7,8,9,10,19] (fun _ _ _ _ _ i wr=>∃(k:Nat) (out:List Nat),k<=n/\i=.int .i64 k/\Hid (out.length=n+m)/\WOk out/\Hid (wv out=wv (la.take k)*wv lb)/\Blk wr w.heap.size out/\Below w.heap.size w wr)
  (fun _ _ _ _ _ i _=>n-(intOf i).toNat)
 case atStart =>
  exact⟨0,List.replicate (n+m) 0,Nat.zero_le _,rfl,hid (by simp),Qbn _,hid (by rw[Qel];simp[wv]),Blk.new _ _,br.alloc lr _⟩
 case round =>
  obtain⟨k,out,hk,rfl,hlo,oo,hinv,hblk,hB⟩:=hrel
  by_cases hlt2:k<n
  .obtain⟨b,off,rfl,hbs,hcl⟩:=HA.out (by intro h;have:=H.out.1;rw[h] at this;simp at this;omega);have c0:=(hB.cell (p:=⟨b,off+k,none⟩) hbs).trans (hcl k (by have:=H.out.1;omega));have bx:la[k]?.getD 0<4294967296:=Qci oa k;have hroom:=hid (Qqd (i:=k) (m:=m) oa ob H.out.2 (by have:=H.out.1;omega) hinv.out);clear hcl;obtain⟨wo,rfl⟩:∃ wo:World,wo=wr:=⟨_,rfl⟩
   go_wp2
   go_loopw [8,9,10,26] (fun c _ _ j wr=>∃(k2 cr:Nat) (out2:List Nat),k2<=m/\j=.int .i64 k2/\c=.int .u64 cr/\cr<4294967296/\Hid (out2.length=n+m)/\WOk out2/\Hid (wat out2 (k+m)=0)/\Hid (wv out2+4294967296^(k+k2)*cr=wv (la.take k)*wv lb+4294967296^k*(wat la k*wv (lb.take k2)))/\Blk wr w.heap.size out2/\Below w.heap.size w wr)
    (fun _ _ _ j _=>m-(intOf j).toNat)
   case atStart =>
    exact⟨0,0,out,Nat.zero_le _,rfl,rfl,by omega,hlo,oo,hroom,hid (by simpa[wv] using hinv.out),hblk,hB⟩
   case round =>
    obtain⟨k2,cr,out2,hk2,rfl,rfl,hcr,hlo2,oo2,hz2,hinv2,hblk2,hB2⟩:=hrel
    by_cases hlt3:k2<m
    .obtain⟨b2,off2,rfl,hbs2,hcl2⟩:=HB.out (by intro h;have:=H.out.2;rw[h] at this;simp at this;omega);have c3:=(hB2.cell (p:=⟨b2,off2+k2,none⟩) hbs2).trans (hcl2 k2 (by have:=H.out.2;omega));have by_:lb[k2]?.getD 0<4294967296:=Qci ob k2;have bo:out2[k+k2]?.getD 0<4294967296:=Qci oo2 _;have c1:=hblk2.cell (i:=k+k2) (by have:=hlo2.out;omega);have c2:=hblk2.frozen (k+k2);have hxy:=Qla bx by_;have e1:((cr:Int)+((la[k]?.getD 0:Nat)*(lb[k2]?.getD 0:Nat)+(out2[k+k2]?.getD 0:Nat)))%4294967296=((cr+(wat la k*wat lb k2+wat out2 (k+k2)))%4294967296:Nat):=by simp[wat]
     have e2:((cr:Int)+((la[k]?.getD 0:Nat)*(lb[k2]?.getD 0:Nat)+(out2[k+k2]?.getD 0:Nat)))/4294967296=((cr+(wat la k*wat lb k2+wat out2 (k+k2)))/4294967296:Nat):=by simp[wat]
     have hst:=hid (Qqe (x:=wat la k) (by have:=hlo2.out;omega) hinv2.out);have hcr':(cr+(wat la k*wat lb k2+wat out2 (k+k2)))/4294967296<4294967296:=by unfold wat;omega
     have E:=hid (And.intro e1 e2);clear hcl2 e1 e2
     go_wp2
     go_roundw
     case rel =>
      rw[E.out.1,E.out.2];exact⟨k2+1,_,_,by omega,by go_num,rfl,hcr',hid (by have:=hlo2.out;simpa using this),Qcv oo2 _ _ (Nat.mod_lt _ (by decide)),hid (by rw[Qwu (by omega)];exact hz2.out),hst,hblk2.set _ _,hB2.setCell (p:=⟨w.heap.size,k+k2,none⟩) lr _⟩
     case measure=>simp[intOf];omega
    .obtain rfl:m=k2:=by omega
     have hfin:=hid (Qsx (out:=out2) (la:=la) (lb:=lb) (i:=k) (m:=m) (by have:=hlo2.out;omega) H.out.2 hz2.out hinv2.out);have c1:=hblk2.cell (i:=k+m) (by have:=hlo2.out;omega);have c2:=hblk2.frozen (k+m)
     go_wp2
     go_roundw
     case rel =>
      exact⟨k+1,_,by omega,by go_num,hid (by have:=hlo2.out;simpa using this),Qcv oo2 _ _ hcr,hfin,hblk2.set _ _,hB2.setCell (p:=⟨w.heap.size,k+m,none⟩) lr _⟩
     case measure=>simp[intOf];omega
  .obtain rfl:n=k:=by omega
   go_wp2
   go_ret
   exact⟨out,hlo.out,oo,by have:=hinv.out;rwa[axe (by have:=H.out.1;omega)] at this,rfl,hblk,hB⟩
def Kep(la lb:List Nat)(va vb:Value)(w:World)(oa:WOk la)(ob:WOk lb)(ha:WSl w va la)(hb:WSl w vb lb)(hn:la.length<1099511627776)(hm:lb.length<1099511627776) :
  Calls prog 266 #[va,vb] w fun e w'=>∃ out,out.length=la.length+lb.length/\WOk out/\wv out=wv la*wv lb/\e=.returned (.slice (some ⟨w.heap.size,0,none⟩) out.length out.length)/\Blk w' w.heap.size out/\Below w.heap.size w w':=by
 obtain⟨pa,ca,rfl,hca,ha⟩:=ha;obtain⟨pb,cb,rfl,hcb,hb⟩:=hb;refine(Kbm la lb _ _ rfl rfl oa ob pa pb ca cb w ha hb hn hm).mono ?_;rintro e w' ⟨out,h1,h2,h3,h4,h5,h6⟩;exact⟨out,h1,h2,h3,by rw[h1];exact h4,h5,h6⟩
end Go.Proofs.YtmimficdpfmfgaaGreat
namespace Tr
def Qwj{la out:List Nat}{k r d:Nat}(hk:k<la.length)(ho:k<out.length)(h:wv (out.drop (k+1))*d+r=wv (la.drop (k+1))) :
  wv ((out.set k ((r*4294967296+wat la k)/d)).drop k)*d+(r*4294967296+wat la k)%d=wv (la.drop k):=by
 rw[Kfj (l:=out.set k _) (by simpa using ho),List.drop_set_of_lt (by omega),List.getElem_set_self,Kfj hk,<-Qwt hk,<-h];have h1:=Nat.div_add_mod (r*4294967296+wat la k) d;generalize (r*4294967296+wat la k)/d=q at *
 generalize (r*4294967296+wat la k)%d=s at *
 rw[Nat.add_mul,Nat.mul_add,Nat.mul_assoc,Nat.mul_comm q d];omega
def Kjc{r d x:Nat}(hr:r<d)(hx:x<4294967296):(r*4294967296+x)/d<4294967296:=by
 rw[Nat.div_lt_iff_lt_mul (by omega)];have:(r+1)*4294967296<=d*4294967296:=Nat.mul_le_mul_right _ hr;rw[Nat.mul_comm 4294967296 d];omega
end Tr
namespace Go.Proofs.YtmimficdpfmfgaaGreat
open Go.RowKit Tr Proofs.Tryz
def Uxf{x y k:Nat}(hy:y<2^k)(h:x*2^k+y<18446744073709551616):bits BinOp.or .u64 ((x*2^k:Nat):Int) (y:Int)=((x*2^k+y:Nat):Int):=by
 rw[bits_or_u64_nat _ _ (by omega) (by omega),Nat.mul_comm,Nat.two_pow_add_eq_or_of_lt hy]
def Qoq{x y:Nat}(hx:x<4294967296)(hy:y<4294967296):bits BinOp.or .u64 ((x:Int)*4294967296) (y:Int)=(x:Int)*4294967296+(y:Int):=by
 have:=Uxf (x:=x) (y:=y) (k:=32) hy (by omega);simpa using this
def Qoi(l:List Nat)(v:Value)(w:World)(ol:WOk l)(hl:WSl w v l)(hm:l.length<1099511627776) :
  Calls prog 287 #[v] w fun e w'=>∃ v',e=.returned v'/\WSl w v' (Qac (wv l))/\w=w':=by
 obtain⟨p,c,rfl,hc,hl⟩:=hl;refine(Kpg l _ rfl ol p c w hl hc hm).mono ?_;rintro e w' ⟨k,h1,h2,rfl,rfl⟩;have h3:(l.take k).length=k:=by simp;omega
 refine⟨_,rfl,?_,rfl⟩;rw[<-h2];refine⟨p,c,by rw[h3],by omega,fun hne=>?_⟩;obtain⟨b,off,h4,h5,h6⟩:=hl (by intro h;rw[h] at hne;simp at hne);refine⟨b,off,h4,h5,fun j hj=>?_⟩;rw[h3] at hj;rw[h6 j (by omega),List.getElem?_take_of_lt hj]
def Kmr(la:List Nat)(n d:Nat)(hna:la.length=n)(oa:WOk la)(hd:0<d)(hd2:d<4294967296)(pa:Option Addr)(ca:Nat)(w:World)(ha:Row w pa la)(hn:n<1099511627776) :
  Calls prog 299 #[.slice pa n ca,.int .u32 d] w fun e w'=>∃ v,e=.returned (.tuple #[v,.int .u32 (wv la%d:Nat)])/\WSl w' v (Qac (wv la/d))/\Below w.heap.size w w':=by
 have H:=hid hna;have HA:=hid ha;have hmk:=Qgr n (by omega);clear ha hna
 go_enter func299,Tryz.ntmps299
 go_wp2
 go_loopw [7,8] (fun r i wr=>∃(k s:Nat) (out:List Nat),k<=n/\i=.int .i64 ((k:Int)-1)/\r=.int .u64 s/\s<d/\Hid (out.length=n)/\WOk out/\Hid (wv (out.drop k)*d+s=wv (la.drop k))/\Blk wr w.heap.size out/\Below w.heap.size w wr)
  (fun _ i _=>(intOf i+1).toNat)
 case atStart =>
  exact⟨n,0,List.replicate n 0,Nat.le_refl _,rfl,rfl,hd,hid (by simp),Qbn _,hid (by rw[axj (by simp),axj (by have:=H.out;omega)];simp[wv]),Blk.new _ _,br.alloc lr _⟩
 case round =>
  obtain⟨k,s,out,hk,rfl,rfl,hs,hlo,oo,hinv,hblk,hB⟩:=hrel;cases k with
  | zero =>
   have h1:=hinv.out;simp only[List.drop_zero] at h1;have hq:wv out=wv la/d:=by
    rw[<-h1];rw[Nat.add_comm,Nat.add_mul_div_right _ _ hd,Nat.div_eq_of_lt hs];omega
   have hr:s=wv la%d:=by
    rw[<-h1,Nat.add_comm,Nat.add_mul_mod_self_right,Nat.mod_eq_of_lt hs]
   have hcut:=fun w' (h:Blk w' w.heap.size out)=>Qoi out _ w' oo (h.wsl (k:=n) (cap:=n) (by have:=hlo.out;omega) lr |> fun x=>by rwa[axe (by have:=hlo.out;omega)] at x) (by have:=hlo.out;omega)
   rw[hq] at hcut;have HR:=hid hr;clear h1 hq hr
   go_wp2_with (go_at_call 287;refine(hcut _ hblk).mono ?_;rintro e w' ⟨v,rfl,hv,rfl⟩)
   go_ret2
   refine⟨v,?_,hv,hB⟩;rw[<-HR.out];rfl
  | succ m =>
   have e:((m+1:Nat):Int)-1=(m:Int):=by omega
   rw[e];clear e;obtain⟨b,off,rfl,hbs,hcl⟩:=HA.out (by intro h;have:=H.out;rw[h] at this;simp at this;omega);have c0:=(hB.cell (p:=⟨b,off+m,none⟩) hbs).trans (hcl m (by have:=H.out;omega));have c1:=hblk.cell (i:=m) (by have:=hlo.out;omega);have c2:=hblk.frozen m;have bx:la[m]?.getD 0<4294967296:=Qci oa m;have hst:=hid (Qwj (d:=d) (by have:=H.out;omega) (by have:=hlo.out;omega) hinv.out);have hor:=Qoq (x:=s) (y:=la[m]?.getD 0) (by omega) bx;have e1:((s:Int)*4294967296+(la[m]?.getD 0:Nat)).tmod (d:Int)=((s*4294967296+wat la m)%d:Nat):=by
    rw[Int.tmod_eq_emod_of_nonneg (by omega)];simp[wat]
   have e2:((s:Int)*4294967296+(la[m]?.getD 0:Nat)).tdiv (d:Int)=((s*4294967296+wat la m)/d:Nat):=by
    rw[Int.tdiv_eq_ediv_of_nonneg (by omega)];simp[wat]
   have hq:(s*4294967296+wat la m)/d<4294967296:=Kjc hs bx;have e3:IntKind.u64.wrap ((s*4294967296+wat la m)/d:Nat)%4294967296=((s*4294967296+wat la m)/d:Nat):=by
    show((((s*4294967296+wat la m)/d:Nat):Int)%18446744073709551616)%4294967296=_;generalize (s*4294967296+wat la m)/d=q at *
    omega
   have E:=hid (And.intro e1 (And.intro e2 e3));have HO:=hid hor;clear hcl hor e1 e2 e3
   go_wp2
   go_roundw
   case rel =>
    rw[HO.out,E.out.1,E.out.2.1,E.out.2.2];exact⟨m,_,_,by omega,rfl,rfl,Nat.mod_lt _ hd,hid (by have:=hlo.out;simpa using this),Qcv oo _ _ hq,hst,hblk.set _ _,hB.setCell (p:=⟨w.heap.size,m,none⟩) lr _⟩
   case measure=>simp[intOf]
def Ksx(la:List Nat)(d:Nat)(va:Value)(w:World)(oa:WOk la)(hd:0<d)(hd2:d<4294967296)(ha:WSl w va la)(hn:la.length<1099511627776) :
  Calls prog 299 #[va,.int .u32 d] w fun e w'=>∃ v,e=.returned (.tuple #[v,.int .u32 (wv la%d:Nat)])/\WSl w' v (Qac (wv la/d))/\Below w.heap.size w w':=by
 obtain⟨pa,ca,rfl,hca,ha⟩:=ha;exact Kmr la _ d rfl oa hd hd2 pa ca w ha hn
def Uba(l:List Nat)(n:Nat)(hn:l.length=n)(ol:WOk l)(p:Option Addr)(c:Nat)(w:World)(hl:Row w p l)(hc:n<=c)(hm:n<1099511627776) :
  Calls prog 260 #[.slice p n c] w fun e w'=>∃ k,k<=n/\l.take k=Qac (wv l)/\e=.returned (.slice p k c)/\w=w':=by
 have H:=hid hn;have HL:=hid hl;have hs:∀ k:Nat,k<=n->Hid (∀ j,k<=j->j<l.length->l[j]?.getD 0=0)->(k=0\/l[k-1]?.getD 0≠0)->l.take k=Qac (wv l):=fun k hk hz hl=>Qwo (by omega) ol hz.out hl
 have HS:=hid hs;clear hl hn hs
 go_enter func260,Tryz.ntmps260
 go_wp2
 go_loop [3] (fun v=>∃ k:Nat,k<=n/\v=.int .i64 k/\Hid (∀ j,k<=j->j<l.length->l[j]?.getD 0=0)) (fun v=>(intOf v).toNat)
 case atStart =>
  exact⟨n,Nat.le_refl _,rfl,hid (fun j h1 h2=>by have:=H.out;omega)⟩
 case round =>
  obtain⟨k,hk,rfl,hz⟩:=hrel;cases k with
  | zero =>
   go_wp2
   go_ret
   exact⟨0,Nat.zero_le _,HS.out 0 (Nat.zero_le _) hz (.inl rfl),rfl,rfl⟩
  | succ m =>
   obtain⟨b,off,rfl,_,hcl⟩:=HL.out (by intro h;have:=H.out;rw[h] at this;simp at this;omega);have hc0:=hcl m (by have:=H.out;omega);clear hcl;have e0:((m+1:Nat):Int)=(m:Int)+1:=by omega
   by_cases h0:l[m]?.getD 0=0
   .have hz':Hid (∀ j,m<=j->j<l.length->l[j]?.getD 0=0):=hid (fun j h1 h2=>by
     by_cases h:j=m
     .rw[h];exact h0
     .exact hz.out j (by omega) h2)
    have hb:(((l[m]?.getD 0:Nat):Int)==0)=true:=by rw[h0];rfl
    clear h0
    go_wp2
    go_round
    case rel=>exact⟨m,by omega,rfl,hz'⟩
    case measure=>simp[intOf]
   .have hb:(((l[m]?.getD 0:Nat):Int)==0)=false:=by simp;exact h0
    have ht:=HS.out (m+1) hk hz (.inr (by simpa using h0));have HT:=hid ht;clear h0 ht
    go_wp2
    go_ret
    exact⟨m+1,hk,HT.out,by simp,rfl⟩
def Qfm(l:List Nat)(v:Value)(w:World)(ol:WOk l)(hl:WSl w v l)(hm:l.length<1099511627776) :
  Calls prog 260 #[v] w fun e w'=>∃ v',e=.returned v'/\WSl w v' (Qac (wv l))/\w=w':=by
 obtain⟨p,c,rfl,hc,hl⟩:=hl;refine(Uba l _ rfl ol p c w hl hc hm).mono ?_;rintro e w' ⟨k,h1,h2,rfl,rfl⟩;have h3:(l.take k).length=k:=by simp;omega
 refine⟨_,rfl,?_,rfl⟩;rw[<-h2];refine⟨p,c,by rw[h3],by omega,fun hne=>?_⟩;obtain⟨b,off,h4,h5,h6⟩:=hl (by intro h;rw[h] at hne;simp at hne);refine⟨b,off,h4,h5,fun j hj=>?_⟩;rw[h3] at hj;rw[h6 j (by omega),List.getElem?_take_of_lt hj]
def Qow(l:List Nat)(v:Value)(i:Nat)(w:World)(ol:WOk l)(hl:WSl w v l) :
  Calls prog 284 #[v,.int .i64 i] w fun e w'=>e=.returned (.int .u64 (wat l i))/\w=w':=by
 obtain⟨p,c,rfl,hc,hl⟩:=hl;obtain⟨n,hn⟩:∃ n,l.length=n:=⟨_,rfl⟩
 rw[hn] at hc ⊢
 by_cases h:i<n
 .obtain⟨b,off,rfl,_,hcl⟩:=hl (by intro h;rw[h] at hn;simp at hn;omega);have hc0:=hcl i (by omega);obtain⟨x,hx0⟩:∃ x,x=wat l i:=⟨_,rfl⟩
  have hx:x<4294967296:=by rw[hx0];exact Qci ol i
  rw[show l[i]?.getD 0=x from hx0.symm] at hc0;rw[<-hx0];clear hcl hl hx0
  go_enter func284,Tryz.ntmps284
  go_wp2
  go_ret
  exact⟨rfl,rfl⟩
 .have HE:Hid (wat l i=0):=hid (Qhk (by omega));clear hl
  go_enter func284,Tryz.ntmps284
  go_wp2
  go_ret
  exact⟨by rw[HE.out];rfl,rfl⟩
def Ktk(la lb:List Nat)(n:Nat)(hna:la.length=n)(hnb:lb.length=n)(oa:WOk la)(ob:WOk lb)(pa pb:Option Addr)(ca cb:Nat)(w:World)(ha:Row w pa la)(hb:Row w pb lb)(hn:n<1099511627776) :
  Calls prog 235 #[.slice pa n ca,.slice pb n cb] w fun e w'=>e=.returned (.int .i64 (Qdw (wv la) (wv lb)))/\∃ n,w'=w.drewN n:=by
 have H:=hid (And.intro hna hnb);have HA:=hid ha;have HB:=hid hb;clear ha hb hna hnb
 go_enter func235,Tryz.ntmps235
 go_wp2
 go_loopw [5] (fun i wr=>∃ k:Nat,k<=n/\i=.int .i64 ((k:Int)-1)/\Hid (la.drop k=lb.drop k)/\∃ d,wr=w.drewN d) (fun i _=>(intOf i+1).toNat)
 case atStart =>
  refine⟨n,Nat.le_refl _,rfl,hid ?_,0,rfl⟩;obtain⟨h1,h2⟩:=H.out;rw[axj (by omega),axj (by omega)]
 case round =>
  obtain⟨k,hk,rfl,hd,d,rfl⟩:=hrel;cases k with
  | zero =>
   have hz:Hid (Qdw (wv la) (wv lb)=0):=hid (by rw[Khj hd.out];exact Khb _)
   go_wp2
   go_ret
   exact⟨Qfb hz.out.symm,d,rfl⟩
  | succ m =>
   have e:((m+1:Nat):Int)-1=(m:Int):=by omega
   rw[e];clear e;obtain⟨h1,h2⟩:=H.out;obtain⟨ba,oa',rfl,_,hca⟩:=HA.out (by intro h;rw[h] at h1;simp at h1;omega);obtain⟨bb,ob',rfl,_,hcb⟩:=HB.out (by intro h;rw[h] at h2;simp at h2;omega);have ca0:=hca m (by omega);have cb0:=hcb m (by omega);have HD:=hid (And.intro h1 h2);clear hca hcb h1 h2;have i0:(0:Int)<=(m:Int):=by omega
   have i1:(m:Int)<(n:Int):=by omega
   have hx:∀ x y:Nat,x<y->((x:Int)<(y:Int)):=fun x y h=>by omega
   rcases Nat.lt_trichotomy (la[m]?.getD 0) (lb[m]?.getD 0) with h|h|h
   .have h':=hx _ _ h;have hz:Hid (Qdw (wv la) (wv lb)=-1):=hid (Kgy (by have:=HD.out;omega) (by have:=HD.out;omega) oa hd.out h);clear h hx
    go_wp2
    go_quiet (fail)
    go_wp2
    go_ret
    exact⟨Qfb hz.out.symm,by first|exact⟨_,rfl⟩|(simp only[World.drewN_drewN];exact⟨_,rfl⟩)⟩
   .have hz:Hid (la.drop m=lb.drop m):=hid (Kai (by have:=HD.out;omega) (by have:=HD.out;omega) hd.out h);have h1:¬((la[m]?.getD 0:Nat):Int)<((lb[m]?.getD 0:Nat):Int):=by omega
    have h2:¬((lb[m]?.getD 0:Nat):Int)<((la[m]?.getD 0:Nat):Int):=by omega
    clear h hx
    go_wp2
    go_quiet (fail)
    go_wp2
    go_quiet (fail)
    go_wp2
    go_roundw
    case rel=>exact⟨m,by omega,rfl,hz,by first|exact⟨_,rfl⟩|(simp only[World.drewN_drewN];exact⟨_,rfl⟩)⟩
    case measure=>simp[intOf]
   .have h':=hx _ _ h;have h1:¬((la[m]?.getD 0:Nat):Int)<((lb[m]?.getD 0:Nat):Int):=by omega
    have hz:Hid (Qdw (wv la) (wv lb)=1):=hid (Kha (by have:=HD.out;omega) (by have:=HD.out;omega) ob hd.out h);clear h hx
    go_wp2
    go_quiet (fail)
    go_wp2
    go_quiet (fail)
    go_wp2
    go_ret
    exact⟨Qfb hz.out.symm,by first|exact⟨_,rfl⟩|(simp only[World.drewN_drewN];exact⟨_,rfl⟩)⟩
def Qgw(a b:Nat)(va vb:Value)(w:World)(ha:WSl w va (Qac a))(hb:WSl w vb (Qac b))(hla:(Qac a).length<1099511627776) :
  Calls prog 235 #[va,vb] w fun e w'=>e=.returned (.int .i64 (Qdw a b))/\∃ n,w'=w.drewN n:=by
 obtain⟨pa,ca,rfl,hca,ha⟩:=ha;obtain⟨pb,cb,rfl,hcb,hb⟩:=hb;rcases Nat.lt_trichotomy (Qac a).length (Qac b).length with h|h|h
 .have hz:Qdw a b=-1:=by unfold Qdw;rw[if_pos (Qdt h)]
  go_enter func235,Tryz.ntmps235
  go_wp2
  go_ret
  exact⟨Qfb hz.symm,0,rfl⟩
 .rw[<-h] at hb ⊢;have:=Ktk (Qac a) (Qac b) _ rfl h.symm (Qap a) (Qap b) pa pb ca cb w ha (fun hne=>by obtain⟨b,off,h1,h2,h3⟩:=hb hne;exact⟨b,off,h1,h2,fun j hj=>h3 j (by omega)⟩) hla;rwa[Qaq,Qaq] at this
 .have hz:Qdw a b=1:=by unfold Qdw;rw[if_neg (by have:=Qdt h;omega),if_pos (Qdt h)]
  go_enter func235,Tryz.ntmps235
  go_wp2
  go_ret
  exact⟨Qfb hz.symm,0,rfl⟩
end Go.Proofs.YtmimficdpfmfgaaGreat
namespace Tr
def Uja{P a b o c:Nat}(h1:a<P)(h2:b<P)(h:o+P*4294967296*c=a+b):c=0:=by
 rcases axh c with h0|h0
 .exact h0
 .have h3:P*4294967296*1<=P*4294967296*c:=axl _ h0;generalize P*4294967296*c=Q at *
  omega
def Ktb{out la lb:List Nat}{n c:Nat}(ho:out.length=n+1)(oa:WOk la)(ob:WOk lb)(ha:la.length<=n)(hb:lb.length<=n)(h:wv (out.take (n+1))+4294967296^(n+1)*c=wv (la.take (n+1))+wv (lb.take (n+1))):wv out=wv la+wv lb:=by
 rw[axe (Nat.le_of_eq ho),axe (Nat.le_succ_of_le ha),axe (Nat.le_succ_of_le hb),Nat.pow_succ] at h;have h1:=axc (Qgu oa) (axg (by decide) ha);have h2:=axc (Qgu ob) (axg (by decide) hb);have hc:=Uja h1 h2 h;rw[hc,Nat.mul_zero,Nat.add_zero] at h;exact h
end Tr
namespace Go.Proofs.YtmimficdpfmfgaaGreat
open Go.RowKit Tr Proofs.Tryz
def Ktc(la lb:List Nat)(n m M:Nat)(hna:la.length=n)(hnb:lb.length=m)(hM:M=n/\¬n<m\/M=m/\n<m)(oa:WOk la)(ob:WOk lb)(va vb:Value)(w:World)(ha:WSl w va la)(hb:WSl w vb lb)(hn:M<549755813888) :
  Calls prog 258 #[va,vb] w fun e w'=>∃ v,e=.returned v/\WSl w' v (Qac (wv la+wv lb))/\Below w.heap.size w w':=by
 have HA:=hid ha;have HB:=hid hb;obtain⟨pa,ca,rfl,hca,_⟩:=ha;obtain⟨pb,cb,rfl,hcb,_⟩:=hb;rw[hna] at HA ⊢;rw[hnb] at HB ⊢;have H:=hid (And.intro hna hnb);have hmk:=Qgr (M+1) (by omega);have en:((M+1:Nat):Int)=(M:Int)+1:=by omega
 rw[en] at hmk;clear hna hnb en hca hcb;rcases hM with⟨rfl,hlt⟩|⟨rfl,hlt⟩
 all_goals (
  go_enter func258,Tryz.ntmps258
  go_wp2
  go_loopw [7,8] (fun c i wr=>∃(k cr:Nat) (out:List Nat),k<=M+1/\i=.int .i64 k/\c=.int .u64 cr/\cr<=1/\Hid (out.length=M+1)/\WOk out/\Hid (wv (out.take k)+4294967296^k*cr=wv (la.take k)+wv (lb.take k))/\Blk wr w.heap.size out/\Below w.heap.size w wr)
   (fun _ i _=>M+1-(intOf i).toNat)
  case atStart =>
   exact⟨0,0,List.replicate (M+1) 0,Nat.zero_le _,rfl,rfl,by omega,hid (by simp),Qbn _,hid (by simp[wv]),Blk.new _ _,br.alloc lr _⟩
  case round =>
   obtain⟨k,cr,out,hk,rfl,rfl,hcr,hlo,oo,hinv,hblk,hB⟩:=hrel
   by_cases hlt2:k<M+1
   .have c1:=hblk.cell (i:=k) (by have:=hlo.out;omega);have c2:=hblk.frozen k;have bx:wat la k<4294967296:=Qci oa k;have by_:wat lb k<4294967296:=Qci ob k;have hx:=hid (Qow la _ k wr oa (HA.out.below hB));have hy:=hid (Qow lb _ k wr ob (HB.out.below hB));have e1:((cr:Int)+(wat la k:Nat)+(wat lb k:Nat))%4294967296=((cr+wat la k+wat lb k)%4294967296:Nat):=by omega
    have e2:((cr:Int)+(wat la k:Nat)+(wat lb k:Nat))/4294967296=((cr+wat la k+wat lb k)/4294967296:Nat):=by omega
    have E:=hid (And.intro e1 e2);have hst:=hid (Qit (by have:=hlo.out;omega) hinv.out);have hcr':(cr+wat la k+wat lb k)/4294967296<=1:=by omega
    clear e1 e2
    go_wp2_with (first|(with_reducible refine hx.out.mono ?_;rintro e w' ⟨rfl,rfl⟩)|(with_reducible refine hy.out.mono ?_;rintro e w' ⟨rfl,rfl⟩))
    go_roundw
    case rel =>
     rw[E.out.1,E.out.2];exact⟨k+1,_,_,by omega,by go_num,rfl,hcr',hid (by have:=hlo.out;simpa using this),Qcv oo k _ (Nat.mod_lt _ (by decide)),hst,hblk.set k _,hB.setCell (p:=⟨w.heap.size,k,none⟩) lr _⟩
    case measure=>simp[intOf];omega
   .obtain rfl:k=M+1:=by omega
    have hfin:=hid (Ktb hlo.out oa ob (by have:=H.out;omega) (by have:=H.out;omega) hinv.out);have hcut:=hid (Qfm out _ wr oo (hblk.wsl (k:=M+1) (cap:=M+1) (by have:=hlo.out;omega) lr |> fun x=>by rwa[axe (by have:=hlo.out;omega)] at x) (by have:=hlo.out;omega))
    go_wp2_with (refine hcut.out.mono ?_;rintro e w' ⟨v,rfl,hv,rfl⟩)
    go_ret
    exact⟨v,rfl,by rw[<-hfin.out];exact hv,hB⟩)
def Kcf(la lb:List Nat)(va vb:Value)(w:World)(oa:WOk la)(ob:WOk lb)(ha:WSl w va la)(hb:WSl w vb lb)(hn:la.length<549755813888)(hm:lb.length<549755813888) :
  Calls prog 258 #[va,vb] w fun e w'=>∃ v,e=.returned v/\WSl w' v (Qac (wv la+wv lb))/\Below w.heap.size w w' :=
 Ktc la lb _ _ (max la.length lb.length) rfl rfl (by omega) oa ob va vb w ha hb (by omega)
def Qwk(x y c:Nat)(hx:x<4294967296)(hy:y<4294967296)(hc:c<=1):∃ d e:Nat,d<4294967296/\e<=1/\x+4294967296*e=d+y+c/\(4294967296+(x:Int)-(y:Int)-(c:Int))%4294967296=(d:Int)/\1-(4294967296+(x:Int)-(y:Int)-(c:Int))/4294967296=(e:Int):=by
 by_cases h:y+c<=x
 .exact⟨x-y-c,0,by omega,by omega,by omega,by omega,by omega⟩
 .exact⟨4294967296+x-y-c,1,by omega,by omega,by omega,by omega,by omega⟩
def Kcd(la lb:List Nat)(va vb:Value)(w:World)(oa:WOk la)(ob:WOk lb)(hle:wv lb<=wv la)(hll:lb.length<=la.length)(ha:WSl w va la)(hb:WSl w vb lb)(hn:la.length<1099511627776) :
  Calls prog 259 #[va,vb] w fun e w'=>∃ v,e=.returned v/\WSl w' v (Qac (wv la-wv lb))/\Below w.heap.size w w':=by
 have HA:=hid ha;have HB:=hid hb;obtain⟨n,hna⟩:∃ n,la.length=n:=⟨_,rfl⟩
 obtain⟨m,hnb⟩:∃ m,lb.length=m:=⟨_,rfl⟩
 obtain⟨pa,ca,rfl,hca,_⟩:=ha;obtain⟨pb,cb,rfl,hcb,_⟩:=hb;rw[hna] at HA ⊢ hn;rw[hnb] at HB ⊢;have H:=hid (And.intro hna (And.intro hnb (And.intro hle hll)));have hmk:=Qgr n (by omega);clear hna hnb hca hcb hle hll
 go_enter func259,Tryz.ntmps259
 go_wp2
 go_loopw [6,7,8] (fun c i _ wr=>∃(k cr:Nat) (out:List Nat),k<=n/\i=.int .i64 k/\c=.int .u64 cr/\cr<=1/\Hid (out.length=n)/\WOk out/\Hid (wv (out.take k)+wv (lb.take k)=wv (la.take k)+4294967296^k*cr)/\Blk wr w.heap.size out/\Below w.heap.size w wr)
  (fun _ i _ _=>n-(intOf i).toNat)
 case atStart =>
  exact⟨0,0,List.replicate n 0,Nat.zero_le _,rfl,rfl,by omega,hid (by simp),Qbn _,hid (by simp[wv]),Blk.new _ _,br.alloc lr _⟩
 case round =>
  obtain⟨k,cr,out,hk,rfl,rfl,hcr,hlo,oo,hinv,hblk,hB⟩:=hrel
  by_cases hlt2:k<n
  .have c1:=hblk.cell (i:=k) (by have:=hlo.out;omega);have c2:=hblk.frozen k;have bx:wat la k<4294967296:=Qci oa k;have by_:wat lb k<4294967296:=Qci ob k;have hx:=hid (Qow la _ k wr oa (HA.out.below hB));have hy:=hid (Qow lb _ k wr ob (HB.out.below hB));obtain⟨d,e,hd,he,hde,e1,e2⟩:=Qwk (wat la k) (wat lb k) cr bx by_ hcr;have E:=hid (And.intro e1 e2);have hst:=hid (Qsg (d:=d) (e:=e) (by have:=hlo.out;omega) hde hinv.out);clear e1 e2 hde
   go_wp2_with (first|(with_reducible refine hx.out.mono ?_;rintro e w' ⟨rfl,rfl⟩)|(with_reducible refine hy.out.mono ?_;rintro e w' ⟨rfl,rfl⟩))
   go_roundw
   case rel =>
    rw[E.out.1,E.out.2];exact⟨k+1,_,_,by omega,by go_num,rfl,he,hid (by have:=hlo.out;simpa using this),Qcv oo k _ hd,hst,hblk.set k _,hB.setCell (p:=⟨w.heap.size,k,none⟩) lr _⟩
   case measure=>simp[intOf];omega
  .obtain rfl:k=n:=by omega
   have hfin:=hid (Khq hlo.out oo H.out.1 (by have:=H.out;omega) H.out.2.2.1 hinv.out);have hcut:=hid (Qfm out _ wr oo (hblk.wsl (k:=k) (cap:=k) (by have:=hlo.out;omega) lr |> fun x=>by rwa[axe (by have:=hlo.out;omega)] at x) (by have:=hlo.out;omega))
   go_wp2_with (refine hcut.out.mono ?_;rintro e w' ⟨v,rfl,hv,rfl⟩)
   go_ret
   exact⟨v,rfl,by rw[<-hfin.out];exact hv,hB⟩
end Go.Proofs.YtmimficdpfmfgaaGreat
namespace Tr
def Kav{la l:List Nat}{q k s cr t:Nat}(hl:l.length=q+k)(ht:t=cr+la[k]?.getD 0*2^s)(h:wv l+4294967296^(q+k)*cr=4294967296^q*(wv (la.take k)*2^s)) :
  wv (l++[t%4294967296])+4294967296^(q+(k+1))*(t/4294967296)=4294967296^q*(wv (la.take (k+1))*2^s):=by
 have h2:=Qsi (4294967296^(q+k)) t;rw[Qtx,hl,Qeo,show q+(k+1)=q+k+1 by omega,Nat.pow_succ,Nat.add_mul,Nat.mul_add,<-h];have h3:4294967296^q*(4294967296^k*wat la k*2^s)=4294967296^(q+k)*(wat la k*2^s):=by
  rw[Nat.pow_add];simp only[Nat.mul_assoc]
 have h4:4294967296^(q+k)*t=4294967296^(q+k)*cr+4294967296^(q+k)*(wat la k*2^s):=by rw[ht,Nat.mul_add];rfl
 rw[h3];omega
def Kho{la l:List Nat}{q n s N cr:Nat}(hl:l.length=q+n)(hn:la.length=n)(hq:N/32=q)(hs:N%32=s)(h:wv l+4294967296^(q+n)*cr=4294967296^q*(wv (la.take n)*2^s)) :
  wv (l++[cr])=wv la*2^N:=by
 rw[axe (by omega)] at h;have e:(2:Nat)^N=4294967296^q*2^s:=by
  rw[show(4294967296:Nat)=2^32 by decide,<-Nat.pow_mul,<-Nat.pow_add];congr 1;omega
 rw[Qtx,hl,h,e];simp only[Nat.mul_left_comm]
end Tr
namespace Go.Proofs.YtmimficdpfmfgaaGreat
open Go.RowKit Tr Proofs.Tryz
def Ksq(l c:Nat)(hl:l<=c)(hn:c<4398046511104)(w:World):(Instr.makeSlice 228 (.int .i64 (l:Int)) (.int .i64 (c:Int))).run prog w
  = .ok (.slice (some ⟨w.heap.size,0,none⟩) l c) (w.alloc (.cells (Qlf (List.replicate c 0)) 268)):=by
 obtain⟨i,hi,hz,hs,hb⟩:=info_parts Qhx;have:=run_make (P:=prog) w 228 268 i (.int .u32 0) Tryz.underlying228 hi hz .i64 .i64 l c (by omega) (by omega) (by rw[hb];omega) (by omega);rw[this,hs,Int.toNat_natCast,Int.toNat_natCast,Kax]
def Own(w:World)(B m:Nat)(l:List Nat)(cap:Nat):Prop:=w.ownsRow B 268 1 (.slice (some ⟨B,0,none⟩) m cap) m (l.map fun x:Nat=>Value.int .u32 (x:Int))
def Own.length{w:World}{B m cap:Nat}{l:List Nat}(h:Own w B m l cap):l.length=m:=by
 have:=h.1;simpa using this
def Own.new(w:World)(k c:Nat)(hk:k<=c)(hc:c<4398046511104):Own (w.alloc (.cells (Qlf (List.replicate c 0)) 268)) w.heap.size k (List.replicate k 0) c:=by
 refine⟨by simp,.inr ⟨w.heap.size,c,_,by simp,Nat.le_refl _,heap_alloc_new w _,by simpa using hk,by unfold maxLen;omega,by simp[Qlf],?_⟩⟩;simp[Qlf,List.take_replicate,Nat.min_eq_left hk]
def Own.wsl{w:World}{B m cap:Nat}{l:List Nat}(h:Own w B m l cap):WSl w (.slice (some ⟨B,0,none⟩) m cap) l:=by
 have h0:=h.length;obtain⟨h1,h2|⟨g,cap',cur,h2,h3,h4,h5,h6,h7,h8⟩⟩:=h
 .simp at h2
 .simp at h2;obtain⟨rfl,rfl⟩:=h2;refine⟨some ⟨B,0,none⟩,cap,by rw[h0],by omega,fun _=>⟨B,0,rfl,(axa.1 h4).1,fun j hj=>?_⟩⟩;have h9:(cur.toList.take (m*1))[j]?=some (.int .u32 (l[j]?.getD 0:Nat)):=by rw[h8];simp[hj]
  rw[List.getElem?_take_of_lt (by omega)] at h9;simp at h9;simp[World.cell?,h4,h9]
def Own.more{w:World}{B m cap x:Nat}{l:List Nat}(h:w.ownsRow B 268 1 (.slice (some ⟨B,0,none⟩) (m+1) cap) (m+1) ((l.map fun x:Nat=>Value.int .u32 (x:Int))++[.int .u32 (x:Int)])):Own w B (m+1) (l++[x]) cap:=by
 unfold Own;simpa using h
def Ups{x y k:Nat}(hy:y<2^k)(h:y+x*2^k<18446744073709551616):bits BinOp.or .u64 (y:Int) (IntKind.u64.wrap ((x:Int)*2^k))=((y+x*2^k:Nat):Int):=by
 have e:IntKind.u64.wrap ((x:Int)*2^k)=((x*2^k:Nat):Int):=by
  have:((x*2^k:Nat):Int)=(x:Int)*2^k:=by simp
  rw[<-this];show((x*2^k:Nat):Int)%18446744073709551616=_;omega
 rw[e,bits_or_u64_nat _ _ (by omega) (by omega),Nat.or_comm,Nat.mul_comm,<-Nat.two_pow_add_eq_or_of_lt hy,Nat.add_comm]
def Kqu(la:List Nat)(n N q s:Nat)(hna:la.length=n)(oa:WOk la)(hq:N/32=q)(hs:N%32=s)(pa:Option Addr)(ca:Nat)(w:World)(ha:Row w pa la)(hn:n<549755813888)(hN:N<1099511627776) :
  Calls prog 297 #[.slice pa n ca,.int .i64 N] w fun e w'=>∃ v,e=.returned v/\WSl w' v (Qac (wv la*2^N))/\Below w.heap.size w w':=by
 have H:=hid hna;have HA:=hid ha;have hmk:=Ksq q (q+n+1) (by omega) (by omega);have en:((q+n+1:Nat):Int)=(q:Int)+n+1:=by omega
 rw[en] at hmk;have e1:(N:Int).tdiv 32=(q:Int):=by rw[Int.tdiv_eq_ediv_of_nonneg (by omega)];omega
 clear ha hna en
 go_enter func297,Tryz.ntmps297
 go_wp2_with fail
 go_loopw [5,6,8,20] (fun v c _ i wr=>∃(k cr:Nat) (l:List Nat),k<=n/\i=.int .i64 k/\c=.int .u64 cr/\cr<2^s/\v=.slice (some ⟨w.heap.size,0,none⟩) (q+k) (q+n+1)/\WOk l/\Hid (wv l+4294967296^(q+k)*cr=4294967296^q*(wv (la.take k)*2^s))/\Own wr w.heap.size (q+k) l (q+n+1)/\Below w.heap.size w wr)
  (fun _ _ _ i _=>n-(intOf i).toNat)
 case atStart =>
  exact⟨0,0,List.replicate q 0,Nat.zero_le _,rfl,rfl,Nat.two_pow_pos s,rfl,Qbn _,hid (by rw[Qel];simp[wv]),Own.new _ _ _ (by omega) (by omega),br.alloc lr _⟩
 case round =>
  obtain⟨k,cr,l,hk,rfl,rfl,hcr,rfl,ol,hinv,hown,hB⟩:=hrel
  by_cases hlt2:k<n
  .obtain⟨b,off,rfl,hbs,hcl⟩:=HA.out (by intro h;have:=H.out;rw[h] at this;simp at this;omega);have c0:=(hB.cell (p:=⟨b,off+k,none⟩) hbs).trans (hcl k (by have:=H.out;omega));have bx:la[k]?.getD 0<4294967296:=Qci oa k;have e2:(N:Int).tmod 32=(s:Int):=by rw[Int.tmod_eq_emod_of_nonneg (by omega)];omega
   have hs32:s<32:=by omega
   have hp:(2:Nat)^s<=2^31:=axg (by decide) (by omega);obtain⟨t,ht⟩:∃ t:Nat,t=cr+la[k]?.getD 0*2^s:=⟨_,rfl⟩
   have ht1:t<4294967296*2^s:=by
    have:(la[k]?.getD 0+1)*2^s<=4294967296*2^s:=Nat.mul_le_mul_right _ bx;rw[Nat.add_mul] at this;omega
   have ht2:t<18446744073709551616:=by omega
   have hor:=Ups (x:=la[k]?.getD 0) hcr (by omega);rw[<-ht] at hor;have hcr2:t/4294967296<2^s:=Nat.div_lt_of_lt_mul ht1;have hst:=hid (Kav (la:=la) hown.length ht hinv.out);obtain⟨i0,hi,hz0,hz1,hz2⟩:=info_parts Qhx;have HE:Hid ((t:Int)%4294967296=((t%4294967296:Nat):Int)):=hid (by omega);clear hcl ht ht1
   go_wp2_with (first|(at_builtin;rw[HE.out];refine wpList_append_fits _ rfl (.tmp 31) (.tmp 34) 228 rfl w.heap.size 268 i0 1 Tryz.underlying228 hi hz1 w.heap.size (q+k) (q+n+1) _ rfl (hown.alloc _) ⟨wr.heap.size,0,none⟩ 1 1 [.int .u32 ((t%4294967296:Nat):Int)] rfl rfl (cell_one_new _ _ _) (ints_oneCell .u32 [((t%4294967296:Nat):Int)]) (by omega) ?_;intro w4 hown4 hgrow4))
   have hB4:Below w.heap.size w w4:=(hB.alloc hB.size _).grown hgrow4 (by have:=hB.size;simp;omega) (fun k e=>by cases e;exact Nat.le_refl _);refine⟨⟨k+1,_,l++[t%4294967296],by omega,by go_num,rfl,hcr2,rfl,?_,hst,Own.more hown4,hB4⟩,?_⟩
   .rw[Qgf];exact⟨ol,by rw[Qdz];exact⟨Nat.mod_lt _ (by decide),Qfz⟩⟩
   .simp[intOf];omega
  .obtain rfl:n=k:=by omega
   have hp:(2:Nat)^s<=2^31:=axg (by decide) (by omega);have hcr2:cr<4294967296:=by omega
   have hfin:=hid (Kho hown.length H.out hq hs hinv.out);have ol2:WOk (l++[cr]):=by rw[Qgf];exact⟨ol,by rw[Qdz];exact⟨hcr2,Qfz⟩⟩
   obtain⟨i0,hi,hz0,hz1,hz2⟩:=info_parts Qhx
   go_wp2_with (first
    | (at_builtin;refine wpList_append_fits _ rfl (.tmp 39) (.tmp 42) 228 rfl w.heap.size 268 i0 1 Tryz.underlying228 hi hz1 w.heap.size (q+n) (q+n+1) _ rfl (hown.alloc _) ⟨wr.heap.size,0,none⟩ 1 1 [.int .u32 (cr:Int)] rfl rfl (cell_one_new _ _ _) (ints_oneCell .u32 [(cr:Int)]) (by omega) ?_;intro w4 hown4 hgrow4;have hW:=(Own.more hown4).wsl)
    | (go_at_call 287;refine(Qoi _ _ _ ol2 hW (by rw[List.length_append,hown.length];simp;omega)).mono ?_;rintro e w' ⟨v,rfl,hv,rfl⟩))
   go_ret
   have hB4:Below w.heap.size w w4:=(hB.alloc hB.size _).grown hgrow4 (by have:=hB.size;simp;omega) (fun k e=>by cases e;exact Nat.le_refl _);exact⟨v,rfl,by rw[hfin.out] at hv;exact hv,hB4⟩
def Qxw(la:List Nat)(N:Nat)(va:Value)(w:World)(oa:WOk la)(ha:WSl w va la)(hn:la.length<549755813888)(hN:N<1099511627776) :
  Calls prog 297 #[va,.int .i64 N] w fun e w'=>∃ v,e=.returned v/\WSl w' v (Qac (wv la*2^N))/\Below w.heap.size w w':=by
 obtain⟨pa,ca,rfl,hca,ha⟩:=ha;exact Kqu la _ N _ _ rfl oa rfl rfl pa ca w ha hn hN
end Go.Proofs.YtmimficdpfmfgaaGreat
namespace Tr
def Qck(l:List Nat)(k:Nat):wv (l.drop k)=wat l k+4294967296*wv (l.drop (k+1)):=by
 by_cases h:k<l.length
 .rw[Kfj h,Qwt h]
 .rw[Qhk (by omega),axj (by omega),axj (by omega)];rfl
def Qdq(l:List Nat)(k:Nat)(hk:k<=l.length):wv l=wv (l.take k)+4294967296^k*wv (l.drop k):=by
 conv=>lhs;rw[<-List.take_append_drop k l]
 rw[Qix];simp[Nat.min_eq_left hk]
def Qwx{l:List Nat}(h:WOk l)(k:Nat)(hk:k<=l.length):wv l/4294967296^k=wv (l.drop k):=by
 rw[Qdq l k hk];have h1:=Qgu (Qen h k);have h3:(l.take k).length=k:=by simp;omega
 rw[h3] at h1;rw[Nat.add_mul_div_left _ _ (axd (Nat.zero_le _) h1),Nat.div_eq_of_lt h1,Nat.zero_add]
def Qwh{x y z s:Nat}(hs:s<32):(x+4294967296*(y+4294967296*z))/2^s%4294967296=(x+y*4294967296)/2^s%4294967296:=by
 have e:(4294967296:Nat)*4294967296=2^s*(2^(32-s)*4294967296):=by
  rw[<-Nat.mul_assoc,<-Nat.pow_add];have:s+(32-s)=32:=by omega
  rw[this]
 have e2:x+4294967296*(y+4294967296*z)=(x+y*4294967296)+2^s*(2^(32-s)*4294967296*z):=by
  rw[<-Nat.mul_assoc (2^s),<-e,Nat.mul_add,<-Nat.mul_assoc];omega
 rw[e2,Nat.add_mul_div_left _ _ (Nat.two_pow_pos s)];have e3:2^(32-s)*4294967296*z=4294967296*(2^(32-s)*z):=by simp only[Nat.mul_assoc,Nat.mul_left_comm]
 rw[e3,Nat.add_mul_mod_self_left]
def Kmh{l out:List Nat}{k s:Nat}(hl:WOk l)(hs:s<32)(hk:k<l.length)(ho:k<out.length)(h:wv (out.take k)=wv l/2^s%4294967296^k) :
  wv ((out.set k ((wat l k+wat l (k+1)*4294967296)/2^s%4294967296)).take (k+1))=wv l/2^s%4294967296^(k+1):=by
 rw[Qho ho,h,Nat.mod_pow_succ];congr 2;rw[Nat.div_div_eq_div_mul,Nat.mul_comm (2^s),<-Nat.div_div_eq_div_mul,Qwx hl k (by omega),Qck,Qck,Qwh hs]
def Kbs{l out:List Nat}{n s:Nat}(hl:WOk l)(hn:l.length=n)(ho:out.length=n)(h:wv (out.take n)=wv l/2^s%4294967296^n):wv out=wv l/2^s:=by
 rw[axe (by omega)] at h;rw[h];have:=Qgu hl;rw[hn] at this;exact Nat.mod_eq_of_lt (axd (Nat.div_le_self _ _) this)
def Kbq{l:List Nat}{q N s:Nat}(hl:WOk l)(hq:N/32=q)(hs:N%32=s)(hk:q<=l.length):wv (l.drop q)/2^s=wv l/2^N:=by
 rw[<-Qwx hl q hk,Nat.div_div_eq_div_mul];congr 1;rw[show(4294967296:Nat)=2^32 by decide,<-Nat.pow_mul,<-Nat.pow_add];congr 1;omega
def Qwg{l:List Nat}{q N:Nat}(hl:WOk l)(hq:N/32=q)(hk:l.length<=q):wv l/2^N=0:=by
 apply Nat.div_eq_of_lt;have:=Qgu hl;rw[show(4294967296:Nat)=2^32 by decide,<-Nat.pow_mul] at this;exact axc this (axg (by decide) (by omega))
end Tr
namespace Go.Proofs.YtmimficdpfmfgaaGreat
open Go.RowKit Tr Proofs.Tryz
def Uhp{x y:Nat}(hx:x<4294967296)(hy:y<4294967296):bits BinOp.or .u64 (x:Int) ((y:Int)*4294967296)=((x+y*4294967296:Nat):Int):=by
 have e:(y:Int)*4294967296=((y*4294967296:Nat):Int):=by simp
 rw[e,bits_or_u64_nat _ _ (by omega) (by omega),Nat.or_comm,Nat.mul_comm,show(4294967296:Nat)=2^32 by decide,<-Nat.two_pow_add_eq_or_of_lt (by omega),Nat.add_comm]
def Kmi(la:List Nat)(n N q s:Nat)(hna:la.length=n)(oa:WOk la)(hq:N/32=q)(hs:N%32=s)(hqn:q<n)(b off:Nat)(ca:Nat)(hca:n<=ca)(w:World)(hbs:b<w.heap.size)(ha:∀ j,j<n->w.cell? ⟨b,off+j,none⟩=some (.int .u32 (la[j]?.getD 0:Nat)))(hn:n<1099511627776)(hN:N<1099511627776) :
  Calls prog 298 #[.slice (some ⟨b,off,none⟩) n ca,.int .i64 N] w fun e w'=>∃ v,e=.returned v/\WSl w' v (Qac (wv la/2^N))/\Below w.heap.size w w':=by
 have H:=hid hna;have HA:=hid ha;obtain⟨m,hm⟩:∃ m,n-q=m:=⟨_,rfl⟩
 have hmk:=Qgr m (by omega);have e1:(N:Int).tdiv 32=(q:Int):=by rw[Int.tdiv_eq_ediv_of_nonneg (by omega)];omega
 have e2:(N:Int).tmod 32=(s:Int):=by rw[Int.tmod_eq_emod_of_nonneg (by omega)];omega
 obtain⟨l,hl⟩:∃ l:List Nat,l=la.drop q:=⟨_,rfl⟩
 have ol:WOk l:=by rw[hl];exact Qjn oa q
 have HL:Hid (l.length=m):=hid (by rw[hl];simp;omega);have HC:Hid (∀ j,j<m->w.cell? ⟨b,off+q+j,none⟩=some (.int .u32 (l[j]?.getD 0:Nat))):=hid (fun j hj=>by
  rw[hl,List.getElem?_drop,Nat.add_assoc];exact ha (q+j) (by omega))
 have HF:Hid (wv l/2^s=wv la/2^N):=hid (by rw[hl];exact Kbq oa hq hs (by omega));clear ha hna hl HA
 go_enter func298,Tryz.ntmps298
 go_wp2_with fail
 go_loopw [6,7,8,23] (fun _ _ _ i wr=>∃(k:Nat) (out:List Nat),k<=m/\i=.int .i64 k/\Hid (out.length=m)/\WOk out/\Hid (wv (out.take k)=wv l/2^s%4294967296^k)/\Blk wr w.heap.size out/\Below w.heap.size w wr)
  (fun _ _ _ i _=>m-(intOf i).toNat)
 case atStart =>
  exact⟨0,List.replicate m 0,Nat.zero_le _,rfl,hid (by simp),Qbn _,hid (by simp[wv,Nat.mod_one]),Blk.new _ _,br.alloc lr _⟩
 case round =>
  obtain⟨k,out,hk,rfl,hlo,oo,hinv,hblk,hB⟩:=hrel;have hs32:s<32:=by omega
  by_cases hlt2:k<m
  .have c0:=(hB.cell (p:=⟨b,off+q+k,none⟩) hbs).trans (HC.out k hlt2);have c1:=hblk.cell (i:=k) (by have:=hlo.out;omega);have c2:=hblk.frozen k;have bx:l[k]?.getD 0<4294967296:=Qci ol k;have hst:=Kmh (s:=s) (k:=k) ol hs32 (by have:=HL.out;omega) (by have:=hlo.out;omega) hinv.out
   by_cases hkm:k+1<m
   .have c3:=(hB.cell (p:=⟨b,off+q+(k+1),none⟩) hbs).trans (HC.out (k+1) hkm);have by_:l[k+1]?.getD 0<4294967296:=Qci ol (k+1);obtain⟨t,ht⟩:∃ t:Nat,t=wat l k+wat l (k+1)*4294967296:=⟨_,rfl⟩
    have hor:=Uhp bx by_;rw[<-ht] at hst;have ht':l[k]?.getD 0+l[k+1]?.getD 0*4294967296=t:=ht.symm;rw[ht'] at hor;have ht2:t<18446744073709551616:=by omega
    have HE:Hid ((t:Int)/2^s%4294967296=((t/2^s%4294967296:Nat):Int)):=hid (by simp);have HS:=hid hst;clear ht ht' hst
    go_wp2
    go_roundw
    case rel =>
     rw[HE.out];exact⟨k+1,_,by omega,by go_num,hid (by have:=hlo.out;simpa using this),Qcv oo _ _ (Nat.mod_lt _ (by decide)),HS,hblk.set _ _,hB.setCell (p:=⟨w.heap.size,k,none⟩) lr _⟩
    case measure=>simp[intOf];omega
   .have h0:wat l (k+1)=0:=Qhk (by have:=HL.out;omega);obtain⟨t,ht⟩:∃ t:Nat,t=l[k]?.getD 0:=⟨_,rfl⟩
    have hst2:wv ((out.set k (t/2^s%4294967296)).take (k+1))=wv l/2^s%4294967296^(k+1):=by
     rw[h0] at hst;rw[ht];simpa[wat] using hst
    rw[<-ht] at c0 bx;have HE:Hid ((t:Int)/2^s%4294967296=((t/2^s%4294967296:Nat):Int)):=hid (by simp);have HS:=hid hst2;clear ht hst hst2 h0
    go_wp2
    go_roundw
    case rel =>
     rw[HE.out];exact⟨k+1,_,by omega,by go_num,hid (by have:=hlo.out;simpa using this),Qcv oo _ _ (Nat.mod_lt _ (by decide)),HS,hblk.set _ _,hB.setCell (p:=⟨w.heap.size,k,none⟩) lr _⟩
    case measure=>simp[intOf];omega
  .obtain rfl:m=k:=by omega
   have hfin:=hid (Kbs ol HL.out hlo.out hinv.out);have hW:=hblk.wsl (k:=m) (cap:=m) (by have:=hlo.out;omega) lr;rw[axe (by have:=hlo.out;omega)] at hW
   go_wp2_with (go_at_call 287;refine(Qoi _ _ _ oo hW (by rw[hlo.out];omega)).mono ?_;rintro e w' ⟨v,rfl,hv,rfl⟩)
   go_ret
   exact⟨v,rfl,by rw[hfin.out,HF.out] at hv;exact hv,hB⟩
def Kbr(la:List Nat)(N:Nat)(va:Value)(w:World)(oa:WOk la)(ha:WSl w va la)(hn:la.length<1099511627776)(hN:N<1099511627776) :
  Calls prog 298 #[va,.int .i64 N] w fun e w'=>∃ v,e=.returned v/\WSl w' v (Qac (wv la/2^N))/\Below w.heap.size w w':=by
 obtain⟨pa,ca,rfl,hca,ha⟩:=ha
 by_cases h:N/32<la.length
 .obtain⟨b,off,rfl,h1,h2⟩:=ha (by intro h0;rw[h0] at h;simp at h);exact Kmi la _ N _ _ rfl oa rfl rfl h b off ca hca w h1 h2 hn hN
 .have hz:=Qwg oa rfl (Nat.le_of_not_lt h);obtain⟨q,hq⟩:∃ q,N/32=q:=⟨_,rfl⟩
  obtain⟨n,hn'⟩:∃ n,la.length=n:=⟨_,rfl⟩
  rw[hz,Qay,hn'];rw[hn',hq] at h;have e1:(N:Int).tdiv 32=(q:Int):=by rw[Int.tdiv_eq_ediv_of_nonneg (by omega)];omega
  have hle:(n:Int)<=(q:Int):=by omega
  clear ha hca hz
  go_enter func298,Tryz.ntmps298
  go_wp2
  go_ret
  exact⟨_,rfl,WSl.nil w,Below.refl _ _⟩
def Qbs{B:Nat}{a w:World}(h:Below B a w)(n:Nat):Below B a (w.drewN n):=⟨h.os,h.tape,h.output,h.size,h.block⟩
def Qyo(la lb:List Nat)(n m:Nat)(hna:la.length=n)(hnb:lb.length=m)(oa:WOk la)(ob:WOk lb)(pa pb:Option Addr)(ca cb:Nat)(w:World)(ha:Row w pa la)(hb:Row w pb lb)(hn:n<549755813888)(hm:m<549755813888) :
  Calls prog 237 #[.slice pa n ca,.slice pb m cb] w fun e w'=>∃ v,e=.returned v/\WSl w' v (Qac (wv la*wv lb))/\Below w.heap.size w w':=by
 have H:=hid (And.intro hna hnb);have HA:=hid ha;have HB:=hid hb;have hmk:=Qgr (n+m) (by omega);have en:((n+m:Nat):Int)=(n:Int)+m:=by omega
 rw[en] at hmk;clear ha hb hna hnb en
 go_enter func237,Tryz.ntmps237
 go_wp2
 go_loopw [6,7,8,9] (fun i _ _ _ wr=>∃(k:Nat) (out:List Nat),k<=n/\i=.int .i64 k/\Hid (out.length=n+m)/\WOk out/\Hid (wv out=wv (la.take k)*wv lb)/\Blk wr w.heap.size out/\Below w.heap.size w wr)
  (fun i _ _ _ _=>n-(intOf i).toNat)
 case atStart =>
  exact⟨0,List.replicate (n+m) 0,Nat.zero_le _,rfl,hid (by simp),Qbn _,hid (by rw[Qel];simp[wv]),Blk.new _ _,br.alloc lr _⟩
 case round =>
  obtain⟨k,out,hk,rfl,hlo,oo,hinv,hblk,hB⟩:=hrel
  by_cases hlt2:k<n
  .obtain⟨b,off,rfl,hbs,hcl⟩:=HA.out (by intro h;have:=H.out.1;rw[h] at this;simp at this;omega);have c0:=(hB.cell (p:=⟨b,off+k,none⟩) hbs).trans (hcl k (by have:=H.out.1;omega));have bx:la[k]?.getD 0<4294967296:=Qci oa k;have hroom:=hid (Qqd (i:=k) (m:=m) oa ob H.out.2 (by have:=H.out.1;omega) hinv.out);clear hcl;obtain⟨wo,rfl⟩:∃ wo:World,wo=wr:=⟨_,rfl⟩
   go_wp2
   go_loopw [7,9] (fun c j wr=>∃(k2 cr:Nat) (out2:List Nat),k2<=m/\j=.int .i64 k2/\c=.int .u64 cr/\cr<4294967296/\Hid (out2.length=n+m)/\WOk out2/\Hid (wat out2 (k+m)=0)/\Hid (wv out2+4294967296^(k+k2)*cr=wv (la.take k)*wv lb+4294967296^k*(wat la k*wv (lb.take k2)))/\Blk wr w.heap.size out2/\Below w.heap.size w wr)
    (fun _ j _=>m-(intOf j).toNat)
   case atStart =>
    exact⟨0,0,out,Nat.zero_le _,rfl,rfl,by omega,hlo,oo,hroom,hid (by simpa[wv] using hinv.out),hblk,hB⟩
   case round =>
    obtain⟨k2,cr,out2,hk2,rfl,rfl,hcr,hlo2,oo2,hz2,hinv2,hblk2,hB2⟩:=hrel
    by_cases hlt3:k2<m
    .obtain⟨b2,off2,rfl,hbs2,hcl2⟩:=HB.out (by intro h;have:=H.out.2;rw[h] at this;simp at this;omega);have c3:=(hB2.cell (p:=⟨b2,off2+k2,none⟩) hbs2).trans (hcl2 k2 (by have:=H.out.2;omega));have by_:lb[k2]?.getD 0<4294967296:=Qci ob k2;have bo:out2[k+k2]?.getD 0<4294967296:=Qci oo2 _;have c1:=hblk2.cell (i:=k+k2) (by have:=hlo2.out;omega);have c2:=hblk2.frozen (k+k2);have hxy:=Qla bx by_;have e1:((cr:Int)+(la[k]?.getD 0:Nat)*(lb[k2]?.getD 0:Nat)+(out2[k+k2]?.getD 0:Nat))%4294967296=((cr+(wat la k*wat lb k2+wat out2 (k+k2)))%4294967296:Nat):=by simp[wat,Int.add_assoc]
     have e2:((cr:Int)+(la[k]?.getD 0:Nat)*(lb[k2]?.getD 0:Nat)+(out2[k+k2]?.getD 0:Nat))/4294967296=((cr+(wat la k*wat lb k2+wat out2 (k+k2)))/4294967296:Nat):=by simp[wat,Int.add_assoc]
     have hst:=hid (Qqe (x:=wat la k) (by have:=hlo2.out;omega) hinv2.out);have hcr':(cr+(wat la k*wat lb k2+wat out2 (k+k2)))/4294967296<4294967296:=by unfold wat;omega
     have E:=hid (And.intro e1 e2);clear hcl2 e1 e2
     go_wp2
     go_quiet (fail)
     go_wp2
     go_roundw
     case rel =>
      rw[E.out.1,E.out.2];exact⟨k2+1,_,_,by omega,by go_num,rfl,hcr',hid (by have:=hlo2.out;simpa using this),Qcv oo2 _ _ (Nat.mod_lt _ (by decide)),hid (by rw[Qwu (by omega)];exact hz2.out),hst,hblk2.set _ _,(Qbs hB2 _).setCell (p:=⟨w.heap.size,k+k2,none⟩) lr _⟩
     case measure=>simp[intOf];omega
    .obtain rfl:m=k2:=by omega
     have hfin:=hid (Qsx (out:=out2) (la:=la) (lb:=lb) (i:=k) (m:=m) (by have:=hlo2.out;omega) H.out.2 hz2.out hinv2.out);have c1:=hblk2.cell (i:=k+m) (by have:=hlo2.out;omega);have c2:=hblk2.frozen (k+m)
     go_wp2
     go_roundw
     case rel =>
      exact⟨k+1,_,by omega,by go_num,hid (by have:=hlo2.out;simpa using this),Qcv oo2 _ _ hcr,hfin,hblk2.set _ _,hB2.setCell (p:=⟨w.heap.size,k+m,none⟩) lr _⟩
     case measure=>simp[intOf];omega
  .obtain rfl:n=k:=by omega
   have hfin:Hid (wv out=wv la*wv lb):=hid (by have:=hinv.out;rwa[axe (by have:=H.out.1;omega)] at this);have hcut:=hid (Qfm out _ wr oo (hblk.wsl (k:=n+m) (cap:=n+m) (by have:=hlo.out;omega) lr |> fun x=>by rwa[axe (by have:=hlo.out;omega)] at x) (by have:=hlo.out;omega))
   go_wp2_with (refine hcut.out.mono ?_;rintro e w' ⟨v,rfl,hv,rfl⟩)
   go_ret
   exact⟨v,rfl,by rw[<-hfin.out];exact hv,hB⟩
def Qic(la lb:List Nat)(va vb:Value)(w:World)(oa:WOk la)(ob:WOk lb)(ha:WSl w va la)(hb:WSl w vb lb)(hn:la.length<549755813888)(hm:lb.length<549755813888) :
  Calls prog 237 #[va,vb] w fun e w'=>∃ v,e=.returned v/\WSl w' v (Qac (wv la*wv lb))/\Below w.heap.size w w':=by
 obtain⟨pa,ca,rfl,hca,ha⟩:=ha;obtain⟨pb,cb,rfl,hcb,hb⟩:=hb;exact Qyo la lb _ _ rfl rfl oa ob pa pb ca cb w ha hb hn hm
def Ubi(la:List Nat)(n N q s:Nat)(hna:la.length=n)(hn0:0<n)(oa:WOk la)(hq:N/32=q)(hs:N%32=s)(pa:Option Addr)(ca:Nat)(w:World)(ha:Row w pa la)(hn:n<549755813888)(hN:N<1099511627776) :
  Calls prog 283 #[.slice pa n ca,.int .i64 N] w fun e w'=>∃ v,e=.returned v/\WSl w' v (Qac (wv la*2^N))/\Below w.heap.size w w':=by
 have H:=hid hna;have HA:=hid ha;have hmk:=Ksq q (q+n+1) (by omega) (by omega);have en:((q+n+1:Nat):Int)=(q:Int)+n+1:=by omega
 rw[en] at hmk;have e1:(N:Int).tdiv 32=(q:Int):=by rw[Int.tdiv_eq_ediv_of_nonneg (by omega)];omega
 have e0:((n:Int)==0)=false:=by simp;omega
 clear ha hna en hn0
 go_enter func283,Tryz.ntmps283
 go_wp2_with fail
 go_loopw [5,6,7] (fun v c i wr=>∃(k cr:Nat) (l:List Nat),k<=n/\i=.int .i64 k/\c=.int .u64 cr/\cr<2^s/\v=.slice (some ⟨w.heap.size,0,none⟩) (q+k) (q+n+1)/\WOk l/\Hid (wv l+4294967296^(q+k)*cr=4294967296^q*(wv (la.take k)*2^s))/\Own wr w.heap.size (q+k) l (q+n+1)/\Below w.heap.size w wr)
  (fun _ _ i _=>n-(intOf i).toNat)
 case atStart =>
  exact⟨0,0,List.replicate q 0,Nat.zero_le _,rfl,rfl,Nat.two_pow_pos s,rfl,Qbn _,hid (by rw[Qel];simp[wv]),Own.new _ _ _ (by omega) (by omega),br.alloc lr _⟩
 case round =>
  obtain⟨k,cr,l,hk,rfl,rfl,hcr,rfl,ol,hinv,hown,hB⟩:=hrel
  by_cases hlt2:k<n
  .obtain⟨b,off,rfl,hbs,hcl⟩:=HA.out (by intro h;have:=H.out;rw[h] at this;simp at this;omega);have c0:=(hB.cell (p:=⟨b,off+k,none⟩) hbs).trans (hcl k (by have:=H.out;omega));have bx:la[k]?.getD 0<4294967296:=Qci oa k;have e2:(N:Int).tmod 32=(s:Int):=by rw[Int.tmod_eq_emod_of_nonneg (by omega)];omega
   have hs32:s<32:=by omega
   have hp:(2:Nat)^s<=2^31:=axg (by decide) (by omega);obtain⟨y,hy⟩:∃ y:Nat,y=la[k]?.getD 0*2^s:=⟨_,rfl⟩
   obtain⟨t,ht⟩:∃ t:Nat,t=cr+la[k]?.getD 0*2^s:=⟨_,rfl⟩
   have ht1:t<4294967296*2^s:=by
    have:(la[k]?.getD 0+1)*2^s<=4294967296*2^s:=Nat.mul_le_mul_right _ bx;rw[Nat.add_mul] at this;omega
   have ht2:t<18446744073709551616:=by omega
   have hor:IntKind.u64.wrap ((la[k]?.getD 0:Nat)*2^s:Int)=(y:Int):=by
    have e:((la[k]?.getD 0:Nat)*2^s:Int)=(y:Int):=by rw[hy];simp
    rw[e];show(y:Int)%18446744073709551616=_;omega
   have hyt:(cr:Int)+(y:Int)=(t:Int):=by omega
   have hcr2:t/4294967296<2^s:=Nat.div_lt_of_lt_mul ht1;have hst:=hid (Kav (la:=la) hown.length ht hinv.out);obtain⟨i0,hi,hz0,hz1,hz2⟩:=info_parts Qhx;have HE:Hid ((t:Int)%4294967296=((t%4294967296:Nat):Int)):=hid (by omega);clear hcl ht ht1 hy
   go_wp2_with (first|(at_builtin;rw[HE.out];refine wpList_append_fits _ rfl (.tmp 36) (.tmp 40) 228 rfl w.heap.size 268 i0 1 Tryz.underlying228 hi hz1 w.heap.size (q+k) (q+n+1) _ rfl (hown.alloc _) ⟨wr.heap.size,0,none⟩ 1 1 [.int .u32 ((t%4294967296:Nat):Int)] rfl rfl (cell_one_new _ _ _) (ints_oneCell .u32 [((t%4294967296:Nat):Int)]) (by omega) ?_;intro w4 hown4 hgrow4))
   have hB4:Below w.heap.size w w4:=(hB.alloc hB.size _).grown hgrow4 (by have:=hB.size;simp;omega) (fun k e=>by cases e;exact Nat.le_refl _)
   go_roundw
   case rel=>exact⟨k+1,_,l++[t%4294967296],by omega,by go_num,rfl,hcr2,rfl,by rw[Qgf];exact⟨ol,by rw[Qdz];exact⟨Nat.mod_lt _ (by decide),Qfz⟩⟩,hst,Own.more hown4,hB4⟩
   case measure=>simp[intOf];omega
  .obtain rfl:n=k:=by omega
   have hp:(2:Nat)^s<=2^31:=axg (by decide) (by omega);have hcr2:cr<4294967296:=by omega
   have hfin:=hid (Kho hown.length H.out hq hs hinv.out);have ol2:WOk (l++[cr]):=by rw[Qgf];exact⟨ol,by rw[Qdz];exact⟨hcr2,Qfz⟩⟩
   obtain⟨i0,hi,hz0,hz1,hz2⟩:=info_parts Qhx
   go_wp2_with (first
    | (at_builtin;refine wpList_append_fits _ rfl (.tmp 44) (.tmp 47) 228 rfl w.heap.size 268 i0 1 Tryz.underlying228 hi hz1 w.heap.size (q+n) (q+n+1) _ rfl (hown.alloc _) ⟨wr.heap.size,0,none⟩ 1 1 [.int .u32 (cr:Int)] rfl rfl (cell_one_new _ _ _) (ints_oneCell .u32 [(cr:Int)]) (by omega) ?_;intro w4 hown4 hgrow4;have hW:=(Own.more hown4).wsl)
    | (go_at_call 260;refine(Qfm _ _ _ ol2 hW (by rw[List.length_append,hown.length];simp;omega)).mono ?_;rintro e w' ⟨v,rfl,hv,rfl⟩))
   go_ret
   have hB4:Below w.heap.size w w4:=(hB.alloc hB.size _).grown hgrow4 (by have:=hB.size;simp;omega) (fun k e=>by cases e;exact Nat.le_refl _);exact⟨v,rfl,by rw[hfin.out] at hv;exact hv,hB4⟩
def Kfb(la:List Nat)(N:Nat)(va:Value)(w:World)(oa:WOk la)(ha:WSl w va la)(hn:la.length<549755813888)(hN:N<1099511627776) :
  Calls prog 283 #[va,.int .i64 N] w fun e w'=>∃ v,e=.returned v/\WSl w' v (Qac (wv la*2^N))/\Below w.heap.size w w':=by
 obtain⟨pa,ca,rfl,hca,ha⟩:=ha;rcases axh la.length with h0|h0
 .have hl:=List.eq_nil_of_length_eq_zero h0;subst hl;have hz:Qac (wv []*2^N)=[]:=by rw[Kjp,Nat.zero_mul,Qay]
  rw[hz];simp only[List.length_nil]
  go_enter func283,Tryz.ntmps283
  go_wp2
  go_ret
  exact⟨_,rfl,WSl.nil _,Below.refl _ _⟩
 .exact Ubi la _ N _ _ rfl h0 oa rfl rfl pa ca w ha hn hN
