/- Laws. -/
import Derived.Test.YtmimficdpfmfgaaGreatWah
import Derived.Laws.CopyOwn
set_option linter.all false
set_option maxHeartbeats 4000000
set_option maxRecDepth 100000
open Go.Lib (hid)
namespace Tr
def Qth{out la lv:List Nat}{k q c b d e t:Nat}(ho:k<out.length)(he:wat la k+4294967296*e=d+(t%4294967296+b))(ht:t=c+q*wat lv k)(h:wv (out.take k)+q*wv (lv.take k)=wv (la.take k)+4294967296^k*(c+b)) :
  wv ((out.set k d).take (k+1))+q*wv (lv.take (k+1))=wv (la.take (k+1))+4294967296^(k+1)*(t/4294967296+e):=by
 rw[Qho ho,Qeo,Qeo,Nat.pow_succ];have h2:=Nat.mod_add_div t 4294967296;have h3:d+t+b=wat la k+4294967296*(t/4294967296+e):=by omega
 have h4:4294967296^k*(d+t+b)=4294967296^k*(wat la k+4294967296*(t/4294967296+e)):=by rw[h3]
 have h5:q*(4294967296^k*wat lv k)=4294967296^k*(q*wat lv k):=Nat.mul_left_comm _ _ _;rw[Nat.mul_add q,h5,Nat.mul_assoc];rw[Nat.mul_add,Nat.mul_add,ht,Nat.mul_add,Nat.mul_add] at h4;rw[<-ht] at h4;rw[Nat.mul_add] at h;omega
def Qjb(l:List Nat)(o k x:Nat):(l.set (o+k) x).drop o=(l.drop o).set k x:=by
 rw[List.drop_set,if_neg (by omega)];congr 1;omega
def Qyu(l:List Nat)(o k:Nat):wat (l.drop o) k=wat l (o+k):=by unfold wat;rw[List.getElem?_drop]
def Kch{U V q W:Nat}(h:W+q*V=U)(h2:U<(q+1)*V):U/V=q/\U%V=W:=by
 have hV:0<V:=by
  rcases axh V with h0|h0
  .subst h0;omega
  .exact h0
 have h3:W<V:=by rw[Nat.add_mul] at h2;omega
 constructor
 .rw[<-h,Nat.add_mul_div_right _ _ hV,Nat.div_eq_of_lt h3,Nat.zero_add]
 .rw[<-h,Nat.add_mul_mod_self_right,Nat.mod_eq_of_lt h3]
def Ktg{U V q W W2 c P:Nat}(hW2:W2<P)(h:W+q*V=U+P)(hb:W2+P*c=W+V)(h1:q*V<=U+V)(hWP:W<P)(hVP:V<P):0<q/\U/V=q-1/\U%V=W2:=by
 have hq:0<q:=by
  rcases axh q with h0|h0
  .subst h0;omega
  .exact h0
 obtain⟨p,rfl⟩:∃ p,q=p+1:=⟨q-1,by omega⟩
 rw[Nat.add_mul] at h h1;have hc:c=1:=by
  rcases Nat.lt_trichotomy c 1 with h0|h0|h0
  .have:c=0:=by omega
   subst this;omega
  .exact h0
  .have:P*2<=P*c:=axl _ h0;omega
 subst hc;have h5:W2+p*V=U:=by omega
 have h6:W2<V:=by omega
 have:=Kch h5 (by rw[Nat.add_mul];omega);exact⟨hq,by simpa using this.1,this.2⟩
end Tr
namespace Go.Proofs.YtmimficdpfmfgaaGreat
open Go.RowKit Tr Proofs.Tryz
def Ufp(t:Nat)(h:t<18446744073709551616):bits BinOp.and .u64 (t:Int) 4294967295=((t%4294967296:Nat):Int):=by
 have:=bits_and_u64_nat t 4294967295 h (by decide);rw[show(4294967295:Nat)=2^32-1 by decide,Nat.and_two_pow_sub_one_eq_mod] at this;simpa using this
def Qnb{w w1:World}{B:Nat}(h:w.grownBy w1 (some B))(i:Nat)(v:Value):w.grownBy (w1.setCell ⟨B,i,none⟩ v) (some B):=by
 obtain⟨h1,h2,h3,h4,h5⟩:=h;refine⟨h1,h2,h3,by simpa using h4,fun k hk hb=>?_⟩;rw[<-h5 k hk hb];simp only[World.setCell,Array.getElem?_modify];rw[if_neg (fun e=>hb (by rw[e]))]
def Qip{w w1:World}{B b i:Nat}(h:w.grownBy w1 (some B))(hb:b<w.heap.size)(hne:b≠B):w1.cell? ⟨b,i,none⟩=w.cell? ⟨b,i,none⟩ :=
 World.cell?_of_block (w:=w) (h.block b hb (fun e=>hne (by cases e;rfl)))
def Kci(x t b:Nat)(T:Int)(hT:T=(t:Int))(hx:x<4294967296)(ht:t<18446744073709551616)(hb:b<=1) :
  ∃ d e:Nat,d<4294967296/\e<=1/\x+4294967296*e=d+(t%4294967296+b)/\IntKind.u64.wrap (IntKind.u64.wrap ((x:Int)-bits BinOp.and .u64 T 4294967295)-(b:Int))%4294967296=(d:Int)
   /\ bits BinOp.and IntKind.u64 (IntKind.u64.wrap (IntKind.u64.wrap ((x:Int)-bits BinOp.and .u64 T 4294967295)-(b:Int))/4294967296) 1=(e:Int):=by
 obtain⟨d,e,h1,h2,h3,h4,h5⟩:=Qsh x (t%4294967296+b) hx (by omega);have hw:IntKind.u64.wrap (IntKind.u64.wrap ((x:Int)-bits BinOp.and .u64 T 4294967295)-(b:Int))=IntKind.u64.wrap ((x:Int)-((t%4294967296+b:Nat):Int)):=by
  rw[hT,Ufp t ht,IntKind.wrap_u64,IntKind.wrap_u64,IntKind.wrap_u64];omega
 exact⟨d,e,h1,h2,h3,by rw[hw];exact h4,by rw[hw];exact h5⟩
def Qti(l lv:List Nat)(B o L n q cu cv:Nat)(hL:L=n+1)(hn:lv.length=n)(hlen:o+L<=l.length)(ol:WOk l)(ov:WOk lv)(pv:Option Addr)(w:World)(hB:Blk w B l)(hv:Row w pv lv)(hne:∀ b off,pv=some ⟨b,off,none⟩->b≠B)
  (hq:q<4294967296) (h1:q*wv lv<=wv ((l.drop o).take L)+wv lv) (h2:wv ((l.drop o).take L)<(q+1)*wv lv) (hL2:L<1099511627776) (R:Nat) (hR:wv ((l.drop o).take L)/wv lv=R) :
  Calls prog 300 #[.slice (some ⟨B,o,none⟩) L cu,.slice pv n cv,.int .u64 q] w fun e w'=>∃ l',e=.returned (.int .u64 R)/\l'.length=l.length/\WOk l'/\(∀ j,j<o\/o+L<=j->l'[j]?=l[j]?)/\wv ((l'.drop o).take L)=wv ((l.drop o).take L)%wv lv/\Blk w' B l'/\w.grownBy w' (some B):=by
 have HA:=hid (And.intro hlen hn);have HV:=hid (And.intro hv hne);have HQ:=hid (And.intro h1 h2);have HN:=hid hL;have HR:=hid hR;have hnL:n<L:=by omega
 clear hlen hv hne h1 h2 hn hL hR
 go_enter func300,Tryz.ntmps300
 go_wp2_with fail
 go_loopw [7,8,9,10,14] (fun c b _ _ i wr=>∃(k cr bo:Nat) (cur:List Nat),k<=L/\i=.int .i64 k/\c=.int .u64 cr/\b=.int .u64 bo/\cr<4294967296/\bo<=1/\(k<=n\/cr=0)/\Hid (cur.length=l.length)/\WOk cur/\Hid (∀ j,j<o\/o+k<=j->cur[j]?=l[j]?)/\Hid (wv ((cur.drop o).take k)+q*wv (lv.take k)=wv ((l.drop o).take k)+4294967296^k*(cr+bo))/\Blk wr B cur/\w.grownBy wr (some B))
  (fun _ _ _ _ i _=>L-(intOf i).toNat)
 case atStart =>
  exact⟨0,0,0,l,Nat.zero_le _,rfl,rfl,rfl,by omega,by omega,.inl (Nat.zero_le _),hid rfl,ol,hid (fun _ _=>rfl),hid (by simp[wv]),hB,World.grownBy.refl _ _⟩
 case round =>
  obtain⟨k,cr,bo,cur,hk,rfl,rfl,rfl,hcr,hbo,hcz,hlo,oc,hsame,hinv,hblk,hG⟩:=hrel
  by_cases hlt2:k<L
  .have c1:=hblk.cell (i:=o+k) (by have:=hlo.out;have:=HA.out;omega);have c2:=hblk.frozen (o+k);obtain⟨x,hx⟩:∃ x,x=cur[o+k]?.getD 0:=⟨_,rfl⟩
   have bx:x<4294967296:=by rw[hx];exact Qci oc _
   rw[<-hx] at c1;have hxl:Hid (wat (l.drop o) k=x):=hid (by rw[Qyu,hx,hsame.out (o+k) (by omega)];rfl);have hbnd:o+k<cur.length:=by have:=hlo.out;have:=HA.out;omega
   have HX:=hid hbnd;clear hx hbnd
   by_cases hkn:k<n
   .obtain⟨b2,off2,rfl,hbs2,hcl2⟩:=HV.out.1 (by intro h;have:=HA.out.2;rw[h] at this;simp at this;omega);have c3:=(Qip (i:=off2+k) hG hbs2 (HV.out.2 _ _ rfl)).trans (hcl2 k (by have:=HA.out.2;omega));have by_:lv[k]?.getD 0<4294967296:=Qci ov k;have hxy:=Qla hq by_;have hqy:q*lv[k]?.getD 0<=18446744065119617025:=by have:=hxy.1;rw[<-Int.natCast_mul] at this;omega
    obtain⟨d,e,hd,he,hde,e1,e2⟩:=Kci x (cr+q*lv[k]?.getD 0) bo ((cr:Int)+(q:Int)*(lv[k]?.getD 0:Nat)) (by simp) bx (by omega) hbo;have hst:=Qth (out:=cur.drop o) (la:=l.drop o) (lv:=lv) (k:=k) (q:=q) (c:=cr) (d:=d) (e:=e) (by simp;have:=HX.out;omega) (by rw[hxl.out];exact hde) rfl hinv.out;rw[<-Qjb] at hst;have e3:((cr:Int)+(q:Int)*(lv[k]?.getD 0:Nat))/4294967296=((cr+q*lv[k]?.getD 0)/4294967296:Nat):=by simp
    have E:=hid (And.intro e1 (And.intro e2 e3));have HS:=hid hst;have hcr':(cr+q*lv[k]?.getD 0)/4294967296<4294967296:=by omega
    clear hcl2 hst hde e1 e2 e3 hqy
    go_wp2
    rw[E.out.1,E.out.2.1,E.out.2.2];refine⟨⟨k+1,_,e,cur.set (o+k) d,by omega,by go_num,rfl,rfl,hcr',he,.inl (by omega),hid (by have:=hlo.out;simpa using this),Qcv oc _ _ hd,hid (fun j hj=>?_),HS,hblk.set _ _,Qnb hG _ _⟩,?_⟩
    .rw[axp (by omega)];exact hsame.out j (by omega)
    .simp[intOf];omega
   .have hw0:wat lv k=0:=Qhk (by have:=HA.out;omega);obtain⟨d,e,hd,he,hde,e1,e2⟩:=Kci x cr bo (cr:Int) rfl bx (by omega) hbo;have hst:=Qth (out:=cur.drop o) (la:=l.drop o) (lv:=lv) (k:=k) (q:=q) (c:=cr) (t:=cr) (d:=d) (e:=e) (by simp;have:=HX.out;omega) (by rw[hxl.out];exact hde) (by rw[hw0];omega) hinv.out;rw[<-Qjb] at hst;have e3:((cr:Int))/4294967296=(cr/4294967296:Nat):=by simp
    have E:=hid (And.intro e1 (And.intro e2 e3));have HS:=hid hst;have hcr':cr/4294967296<4294967296:=by omega
    clear hst hde e1 e2 e3 hw0
    go_wp2
    rw[E.out.1,E.out.2.1,E.out.2.2];refine⟨⟨k+1,_,e,cur.set (o+k) d,by omega,by go_num,rfl,rfl,hcr',he,.inr (by have:=HN.out;omega),hid (by have:=hlo.out;simpa using this),Qcv oc _ _ hd,hid (fun j hj=>?_),HS,hblk.set _ _,Qnb hG _ _⟩,?_⟩
    .rw[axp (by omega)];exact hsame.out j (by omega)
    .simp[intOf];omega
  .obtain rfl:L=k:=by omega
   obtain rfl:cr=0:=by have:=HN.out;omega
   have hend:=hinv.out;rw[axe (l:=lv) (by have:=HA.out;omega)] at hend;have hWP:wv ((cur.drop o).take L)<4294967296^L:=by
    have h3:=Qgu (Qen (Qjn oc o) L);have h4:((cur.drop o).take L).length=L:=by simp;have:=hlo.out;have:=HA.out;omega
    rwa[h4] at h3
   by_cases hb0:bo=0
   .subst hb0;obtain⟨hr1,hr2⟩:=Kch (by simpa using hend) HQ.out.2;have HU:=hid (And.intro hr1 hr2);clear hend hr1 hr2 hWP
    go_wp2
    go_ret
    exact⟨Qfb (by have:=HU.out.1;have:=HR.out;omega),cur,hlo.out,oc,hsame.out,HU.out.2.symm,hblk,hG⟩
   .obtain rfl:bo=1:=by omega
    have HE:=hid (And.intro hend hWP);clear hend hWP
    go_wp2_with fail
    obtain⟨w1,hw1⟩:∃ w1:World,w1=wr:=⟨_,rfl⟩
    rw[<-hw1] at hblk hG ⊢;clear hw1 wr
    go_loopw [7,11,56] (fun c _ i wr=>∃(k cr:Nat) (cur2:List Nat),k<=L/\i=.int .i64 k/\c=.int .u64 cr/\cr<=1/\Hid (cur2.length=l.length)/\WOk cur2/\Hid (∀ j,j<o\/o+k<=j->cur2[j]?=cur[j]?)/\Hid (wv ((cur2.drop o).take k)+4294967296^k*cr=wv ((cur.drop o).take k)+wv (lv.take k))/\Blk wr B cur2/\w.grownBy wr (some B))
     (fun _ _ i _=>L-(intOf i).toNat)
    case atStart =>
     exact⟨0,0,cur,Nat.zero_le _,rfl,rfl,by omega,hlo,oc,hid (fun _ _=>rfl),hid (by simp[wv]),hblk,hG⟩
    case round =>
     obtain⟨k,cr,cur2,hk2,rfl,rfl,hcr2,hlo2,oc2,hsame2,hinv2,hblk2,hG2⟩:=hrel
     by_cases hlt3:k<L
     .have c1:=hblk2.cell (i:=o+k) (by have:=hlo2.out;have:=HA.out;omega);have c2:=hblk2.frozen (o+k);obtain⟨x,hx⟩:∃ x,x=cur2[o+k]?.getD 0:=⟨_,rfl⟩
      have bx:x<4294967296:=by rw[hx];exact Qci oc2 _
      rw[<-hx] at c1;have hxl:Hid (wat (cur.drop o) k=x):=hid (by rw[Qyu,hx,hsame2.out (o+k) (by omega)];rfl);have hst:=Qit (out:=cur2.drop o) (la:=cur.drop o) (lb:=lv) (i:=k) (c:=cr) (by simp;have:=hlo2.out;have:=HA.out;omega) hinv2.out;rw[<-Qjb,hxl.out] at hst;clear hx
      by_cases hkn:k<n
      .obtain⟨b2,off2,rfl,hbs2,hcl2⟩:=HV.out.1 (by intro h;have:=HA.out.2;rw[h] at this;simp at this;omega);have c3:=(Qip (i:=off2+k) hG2 hbs2 (HV.out.2 _ _ rfl)).trans (hcl2 k (by have:=HA.out.2;omega));have by_:lv[k]?.getD 0<4294967296:=Qci ov k;have e1:((cr:Int)+(x:Int)+(lv[k]?.getD 0:Nat))%4294967296=((cr+x+wat lv k)%4294967296:Nat):=by unfold wat;omega
       have e2:((cr:Int)+(x:Int)+(lv[k]?.getD 0:Nat))/4294967296=((cr+x+wat lv k)/4294967296:Nat):=by unfold wat;omega
       have E:=hid (And.intro e1 e2);have HS:=hid hst;have hcr':(cr+x+wat lv k)/4294967296<=1:=by unfold wat;omega
       clear hcl2 hst e1 e2
       go_wp2
       rw[E.out.1,E.out.2];refine⟨⟨k+1,_,cur2.set (o+k) _,by omega,by go_num,rfl,hcr',hid (by have:=hlo2.out;simpa using this),Qcv oc2 _ _ (Nat.mod_lt _ (by decide)),hid (fun j hj=>?_),HS,hblk2.set _ _,Qnb hG2 _ _⟩,?_⟩
       .rw[axp (by omega)];exact hsame2.out j (by omega)
       .simp[intOf];omega
      .have hw0:wat lv k=0:=Qhk (by have:=HA.out;omega);have e1:((cr:Int)+(x:Int))%4294967296=((cr+x+wat lv k)%4294967296:Nat):=by rw[hw0];omega
       have e2:((cr:Int)+(x:Int))/4294967296=((cr+x+wat lv k)/4294967296:Nat):=by rw[hw0];omega
       have E:=hid (And.intro e1 e2);have HS:=hid hst;have hcr':(cr+x+wat lv k)/4294967296<=1:=by rw[hw0];omega
       clear hst e1 e2 hw0
       go_wp2
       rw[E.out.1,E.out.2];refine⟨⟨k+1,_,cur2.set (o+k) _,by omega,by go_num,rfl,hcr',hid (by have:=hlo2.out;simpa using this),Qcv oc2 _ _ (Nat.mod_lt _ (by decide)),hid (fun j hj=>?_),HS,hblk2.set _ _,Qnb hG2 _ _⟩,?_⟩
       .rw[axp (by omega)];exact hsame2.out j (by omega)
       .simp[intOf];omega
     .obtain rfl:L=k:=by omega
      have h5:=hinv2.out;rw[axe (l:=lv) (by have:=HA.out;have:=HN.out;omega)] at h5;have h6:wv ((cur2.drop o).take L)<4294967296^L:=by
       have h3:=Qgu (Qen (Qjn oc2 o) L);have h4:((cur2.drop o).take L).length=L:=by simp;have:=hlo2.out;have:=HA.out;omega
       rwa[h4] at h3
      have h7:wv lv<4294967296^L:=by
       have h3:=Qgu ov;have h4:4294967296^lv.length<=4294967296^L:=axg (by decide) (by have:=HA.out;omega);omega
      obtain⟨hq0,hr1,hr2⟩:=Ktg h6 (by have:=HE.out.1;simpa using this) h5 HQ.out.1 HE.out.2 h7;have HU:=hid (And.intro hr1 hr2);clear h5 h6 h7 hr1 hr2
      go_wp2
      go_ret
      refine⟨cur2,Qfb (by have:=HU.out.1;have:=HR.out;omega),hlo2.out,oc2,fun j hj=>?_,HU.out.2.symm,hblk2,hG2⟩;rw[hsame2.out j hj,hsame.out j hj]
end Go.Proofs.YtmimficdpfmfgaaGreat
namespace Tr
def Ucs{U V x y:Nat}{P:Nat}(h:x*P<=V)(hU:U<y*P)(hle:V<=U):x<y:=by
 have:x*P<y*P:=by omega
 exact Nat.lt_of_mul_lt_mul_right this
def Kam{U V P top u2 ul v1 v2 vl:Nat}(hU:U=(top*4294967296+u2)*P+ul)(hul:ul<P)(hu2:u2<4294967296)(hV:V=(v1*4294967296+v2)*P+vl)(hv:0<v1):U/V<=top/v1:=by
 rw[Nat.le_div_iff_mul_le hv];have h1:U/V*V<=U:=Nat.div_mul_le_self _ _;generalize U/V=Q at *
 have h2:(Q*v1*4294967296)*P<=Q*V:=by
  rw[Nat.mul_assoc,Nat.mul_assoc];apply axl;rw[hV,Nat.add_mul,Nat.mul_assoc];omega
 have h3:U<(top*4294967296+u2+1)*P:=by rw[hU,Nat.succ_mul];omega
 have h4:=Ucs h2 h3 h1;omega
def Kyr{U V P top u2 ul v1 v2 vl q r Q:Nat}(hU:U=(top*4294967296+u2)*P+ul)(hul:ul<P)(hV:V=(v1*4294967296+v2)*P+vl)(hq:q*v1+r=top)(ht:r*4294967296+u2<q*v2)(hQ:Q*V<=U)(hle:Q<=q):Q<q:=by
 rcases Nat.lt_or_eq_of_le hle with h|h
 .exact h
 .exfalso;subst h;have h2:(Q*(v1*4294967296+v2))*P<=Q*V:=by
   rw[Nat.mul_assoc];apply axl;rw[hV];omega
  have h3:U<(top*4294967296+u2+1)*P:=by rw[hU,Nat.succ_mul];omega
  have h4:=Ucs h2 h3 hQ;rw[Nat.mul_add,<-Nat.mul_assoc] at h4;omega
def Kpw{U V P top u2 ul v1 v2 vl q r:Nat}(hU:U=(top*4294967296+u2)*P+ul)(hV:V=(v1*4294967296+v2)*P+vl)(hvl:vl<P)(hv:0<v1)(hq:q*v1+r=top)(ht:q*v2<=r*4294967296+u2)(hqB:q<=4294967296):q*V<=U+V:=by
 have h1:q*V=(q*(v1*4294967296+v2))*P+q*vl:=by rw[hV,Nat.mul_add,Nat.mul_assoc]
 have h2:q*(v1*4294967296+v2)<=top*4294967296+u2:=by
  rw[Nat.mul_add,<-Nat.mul_assoc];omega
 have h3:(q*(v1*4294967296+v2))*P<=(top*4294967296+u2)*P:=Nat.mul_le_mul_right _ h2;have h4:q*vl<=4294967296*P:=axr hqB (by omega);have h5:4294967296*P<=(v1*4294967296+v2)*P:=Nat.mul_le_mul_right _ (by omega);omega
def Ugk{U V P top u2 ul v1 v2 vl:Nat}(hU:U=(top*4294967296+u2)*P+ul)(hV:V=(v1*4294967296+v2)*P+vl)(hvl:vl<P)(hv2:v2<4294967296)(hlt:U<4294967296*V):top<v1*4294967296+4294967296:=by
 have h1:4294967296*V<(v1*4294967296+v2+1)*4294967296*P:=by
  have:V<(v1*4294967296+v2+1)*P:=by rw[hV,Nat.succ_mul];omega
  rw[Nat.mul_comm _ 4294967296,Nat.mul_assoc];omega
 have h2:(top*4294967296)*P<=U:=by rw[hU,Nat.add_mul];omega
 have h3:top*4294967296<(v1*4294967296+v2+1)*4294967296:=Nat.lt_of_mul_lt_mul_right (axd h2 (Nat.lt_trans hlt h1));omega
def Ujc{l:List Nat}{n:Nat}(hn:l.length=n+2):wv l=(wat l (n+1)*4294967296+wat l n)*4294967296^n+wv (l.take n):=by
 rw[Qdq l n (by omega),Qck,Qck,axj (show l.length<=n+1+1 by omega)];simp only[wv,Nat.mul_zero,Nat.add_zero];have:wat l n+4294967296*wat l (n+1)=wat l (n+1)*4294967296+wat l n:=by omega
 rw[Nat.mul_comm (4294967296^n),this];omega
def Ktl{l:List Nat}{n:Nat}(hn:l.length=n+3):wv l=((wat l (n+2)*4294967296+wat l (n+1))*4294967296+wat l n)*4294967296^n+wv (l.take n):=by
 rw[Qdq l n (by omega),Qck,Qck,Qck,axj (show l.length<=n+1+1+1 by omega)];simp only[wv,Nat.mul_zero,Nat.add_zero];rw[Nat.mul_comm (4294967296^n)];have:wat l n+4294967296*(wat l (n+1)+4294967296*wat l (n+1+1))=(wat l (n+2)*4294967296+wat l (n+1))*4294967296+wat l n:=by
  show wat l n+4294967296*(wat l (n+1)+4294967296*wat l (n+2))=_;omega
 rw[this];omega
def Kqy{x X V A:Nat}(hV:0<V)(hX:X=A%V) :
  (x+4294967296*A)/V=(x+4294967296*X)/V+4294967296*(A/V)/\(x+4294967296*A)%V=(x+4294967296*X)%V:=by
 have h:=Nat.mod_add_div A V;have e:x+4294967296*A=(x+4294967296*X)+V*(4294967296*(A/V)):=by
  rw[Nat.mul_left_comm,hX];omega
 rw[e,Nat.add_mul_div_left _ _ hV,Nat.add_mul_mod_self_left];exact⟨rfl,rfl⟩
def Kqx{x X V:Nat}(hx:x<4294967296)(hX:X<V):x+4294967296*X<4294967296*V:=by
 have:4294967296*(X+1)<=4294967296*V:=axl _ hX;omega
def Ued{cur:List Nat}{i m:Nat}(oc:WOk cur)(hi:i+m<cur.length)(h:wv (cur.drop (i+1))<4294967296^m):wv ((cur.drop i).take (m+1))=wat cur i+4294967296*wv (cur.drop (i+1)):=by
 have h1:=Qdq (cur.drop i) (m+1) (by simp;omega);rw[Qck cur i] at h1;have h2:=Qci oc i;have h3:wat cur i+4294967296*wv (cur.drop (i+1))<4294967296^(m+1):=by
  rw[Nat.pow_succ];have:4294967296*(wv (cur.drop (i+1))+1)<=4294967296*4294967296^m:=axl _ h;rw[Nat.mul_comm (4294967296^m)];omega
 have h4:wv ((cur.drop i).drop (m+1))=0:=by
  rcases axh (wv ((cur.drop i).drop (m+1))) with h0|h0
  .exact h0
  .have:4294967296^(m+1)*1<=4294967296^(m+1)*wv ((cur.drop i).drop (m+1)):=axl _ h0;omega
 rw[h4] at h1;omega
def Qwv{cur:List Nat}{i m:Nat}(hm:2<=m)(oc:WOk cur)(hi:i+m<cur.length):∃ ul,ul<4294967296^(m-2)/\wv ((cur.drop i).take (m+1))=((wat cur (i+m)*4294967296+wat cur (i+m-1))*4294967296+wat cur (i+m-2))*4294967296^(m-2)+ul:=by
 have hl:((cur.drop i).take (m+1)).length=m-2+3:=by simp;omega
 have h1:=Ktl hl;have e:∀ j,j<m+1->wat ((cur.drop i).take (m+1)) j=wat cur (i+j):=fun j hj=>by
  unfold wat;rw[List.getElem?_take_of_lt hj,List.getElem?_drop]
 rw[e _ (by omega),e _ (by omega),e _ (by omega),show i+(m-2+2)=i+m by omega,show i+(m-2+1)=i+m-1 by omega,show i+(m-2)=i+m-2 by omega] at h1;refine⟨_,?_,h1⟩;have h2:=Qgu (Qen (Qen (Qjn oc i) (m+1)) (m-2));have h3:(((cur.drop i).take (m+1)).take (m-2)).length=m-2:=by rw[List.length_take,hl];omega
 rwa[h3] at h2
def Qrv{V m:Nat}(hm:2<=m)(hl:(Qac V).length=m):∃ vl,vl<4294967296^(m-2)/\V=(wat (Qac V) (m-1)*4294967296+wat (Qac V) (m-2))*4294967296^(m-2)+vl:=by
 have h1:=Ujc (l:=Qac V) (n:=m-2) (by omega);rw[Qaq,show m-2+1=m-1 by omega] at h1;refine⟨_,?_,h1⟩;have h2:=Qgu (Qen (Qap V) (m-2));have h3:((Qac V).take (m-2)).length=m-2:=by rw[List.length_take,hl];omega
 rwa[h3] at h2
def Kli{W V x1 x2 x3 y1 y2 q r P:Nat}(hW:∃ ul,ul<P/\W=((x1*4294967296+x2)*4294967296+x3)*P+ul)(hV:∃ vl,vl<P/\V=(y1*4294967296+y2)*P+vl)(hqr:q*y1+r=x1*4294967296+x2)(hQ:W/V<=q)(hd:W/V<4294967296)(h:¬(q<4294967296/\¬r*4294967296+x3<q*y2)):W/V<=q-1/\(q-1)*y1+(r+y1)=x1*4294967296+x2:=by
 obtain⟨ul,hul,hW⟩:=hW;obtain⟨vl,hvl,hV⟩:=hV;have hlt:W/V<q:=by
  by_cases hq:q<4294967296
  .refine Kyr hW hul hV hqr ?_ (Nat.div_mul_le_self _ _) hQ;rcases Nat.lt_or_ge (r*4294967296+x3) (q*y2) with h1|h1
   .exact h1
   .exact absurd ⟨hq,Nat.not_lt.2 h1⟩ h
  .omega
 refine⟨by omega,?_⟩;have hq0:0<q:=axd (Nat.zero_le _) hlt;obtain⟨p,rfl⟩:∃ p,q=p+1:=⟨q-1,by omega⟩
 rw[Nat.add_mul] at hqr;simp only[Nat.add_sub_cancel];omega
def Kqn{W V x1 x2 x3 y1 y2 q r P:Nat}(hW:∃ ul,ul<P/\W=((x1*4294967296+x2)*4294967296+x3)*P+ul)(hV:∃ vl,vl<P/\V=(y1*4294967296+y2)*P+vl)(hy1:0<y1)(hy2:y2<4294967296)(hqr:q*y1+r=x1*4294967296+x2)(hUV:W<4294967296*V) :
  (q<4294967296->¬r*4294967296+x3<q*y2->q*V<=W+V)/\(1<=q->4294967296<=r+y1->q-1<4294967296/\(q-1)*V<=W+V):=by
 obtain⟨ul,hul,hW⟩:=hW;obtain⟨vl,hvl,hV⟩:=hV;constructor
 .intro h1 h2;exact Kpw hW hV hvl hy1 hqr (by omega) (by omega)
 .intro h1 h2;obtain⟨p,rfl⟩:∃ p,q=p+1:=⟨q-1,by omega⟩
  have htop:=Ugk hW hV hvl hy2 hUV;rw[Nat.add_mul] at hqr;have hp:p<4294967296:=by
   have:p*y1<4294967296*y1:=by rw[Nat.mul_comm 4294967296];omega
   exact Nat.lt_of_mul_lt_mul_right this
  simp only[Nat.add_sub_cancel];refine⟨hp,Kpw (r:=r+y1) hW hV hvl hy1 (by omega) ?_ (by omega)⟩;have h3:p*y2<=4294967296*4294967296:=axr (by omega) (by omega);have h4:4294967296*4294967296<=(r+y1)*4294967296:=Nat.mul_le_mul_right _ h2;omega
def Qkv{cur l':List Nat}{i m:Nat}(hi:i+m<cur.length)(hlen:l'.length=cur.length)(hsame:∀ j,j<i\/i+(m+1)<=j->l'[j]?=cur[j]?)(hX:wv (cur.drop (i+1))<4294967296^m):wv (l'.drop i)=wv ((l'.drop i).take (m+1)):=by
 have h1:=Qdq (l'.drop i) (m+1) (by simp;omega);have h2:(l'.drop i).drop (m+1)=cur.drop (i+(m+1)):=by
  apply List.ext_getElem?;intro j;rw[List.drop_drop,List.getElem?_drop,List.getElem?_drop,hsame _ (by omega)]
 have h3:=Qdq (cur.drop (i+1)) m (by simp;omega);rw[List.drop_drop,show i+1+m=i+(m+1) by omega] at h3;have h4:wv (cur.drop (i+(m+1)))=0:=by
  rcases axh (wv (cur.drop (i+(m+1)))) with h0|h0
  .exact h0
  .have:4294967296^m*1<=4294967296^m*wv (cur.drop (i+(m+1))):=axl _ h0;omega
 rw[h2,h4,Nat.mul_zero,Nat.add_zero] at h1;exact h1
def Qku{cur u0 quo:List Nat}{i R V:Nat}(hV:0<V)(hs:cur[i]?=u0[i]?)(hmod:wv (cur.drop (i+1))=wv (u0.drop (i+1))%V)(hdiv:wv (quo.drop (i+1))=wv (u0.drop (i+1))/V)(hq:i<quo.length)(hR:(wat cur i+4294967296*wv (cur.drop (i+1)))/V=R) :
  (wat cur i+4294967296*wv (cur.drop (i+1)))%V=wv (u0.drop i)%V/\wv ((quo.set i R).drop i)=wv (u0.drop i)/V:=by
 have h1:=Kqy (x:=wat cur i) hV hmod;have h2:wat u0 i=wat cur i:=by unfold wat;rw[hs]
 have h3:=Qck u0 i;rw[h2] at h3;have h4:=Qck (quo.set i R) i;have h6:(quo.set i R).drop (i+1)=quo.drop (i+1):=List.drop_set_of_lt (by omega);rw[h6,hdiv] at h4;have h5:wat (quo.set i R) i=R:=by unfold wat;rw[List.getElem?_set_self hq];rfl
 rw[h3,h4,h5,h1.1,h1.2,hR];exact⟨rfl,rfl⟩
def Khw{b m k bt:Nat}(hm:(Qac b).length=m)(hm0:0<m)(hbt:bt=(Qac b)[m-1]?.getD 0)(h:bt*2^k<4294967296)(hk:k<=32):(Qac (b*2^k)).length=m:=by
 apply Nat.le_antisymm
 .apply Qal;have h1:=Qdq (Qac b) (m-1) (by omega);rw[Qaq,Qck,axj (show(Qac b).length<=m-1+1 by omega)] at h1;have h2:wat (Qac b) (m-1)=bt:=hbt.symm;rw[h2] at h1;simp only[wv,Nat.mul_zero,Nat.add_zero] at h1;have h3:=Qgu (Qen (Qap b) (m-1));have h4:((Qac b).take (m-1)).length=m-1:=by simp;omega
  rw[h4] at h3;have h5:b<4294967296^(m-1)*(bt+1):=by rw[Nat.mul_add];omega
  have h6:(bt+1)*2^k<=4294967296:=by
   have e:(4294967296:Nat)=2^(32-k)*2^k:=by rw[<-Nat.pow_add,show 32-k+k=32 by omega]
   rw[e] at h ⊢;exact Nat.mul_le_mul_right _ (Nat.lt_of_mul_lt_mul_right h)
  have h7:b*2^k<4294967296^(m-1)*(bt+1)*2^k:=Nat.mul_lt_mul_of_pos_right h5 (Nat.two_pow_pos k);have h8:4294967296^(m-1)*(bt+1)*2^k<=4294967296^(m-1)*4294967296:=by
   rw[Nat.mul_assoc];exact axl _ h6
  have h9:4294967296^(m-1)*4294967296=4294967296^m:=by rw[<-Nat.pow_succ];congr 1;omega
  omega
 .rcases Nat.lt_or_ge (Qac (b*2^k)).length m with h1|h1
  .have:=Qdt (a:=b*2^k) (b:=b) (by omega);have h2:b*1<=b*2^k:=axl _ (Nat.two_pow_pos k);omega
  .exact h1
def Qvw{a b M m D k:Nat}(hM:(Qac a).length=M)(hm:(Qac b).length=m)(hm0:1<=m/\m<=M)(hD:D=M+1-m):a*2^k/4294967296^D<b*2^k:=by
 have hP:0<(4294967296:Nat)^D:=Nat.pow_pos (by decide);rw[Nat.div_lt_iff_lt_mul hP];have h1:=Qbr a;rw[hM] at h1;have h2:4294967296^(m-1)<=b:=by
  rcases Nat.lt_or_ge b (4294967296^(m-1)) with h|h
  .have:=Qal h;omega
  .exact h
 have h3:(4294967296:Nat)^M=4294967296^(m-1)*4294967296^D:=by rw[<-Nat.pow_add];congr 1;omega
 have h4:a*2^k<4294967296^M*2^k:=Nat.mul_lt_mul_of_pos_right h1 (Nat.two_pow_pos k);have h5:4294967296^M*2^k<=b*2^k*4294967296^D:=by
  rw[h3,Nat.mul_right_comm];exact Nat.mul_le_mul_right _ (Nat.mul_le_mul_right _ h2)
 omega
def Ueb{a M k:Nat}(hM:(Qac a).length=M)(hk:k<=32):(Qac (a*2^k)).length<=M+1:=by
 apply Qal;have h1:=Qbr a;rw[hM] at h1;have h2:(2:Nat)^k<=2^32:=axg (by decide) hk;have h3:a*2^k<4294967296^M*2^k:=Nat.mul_lt_mul_of_pos_right h1 (Nat.two_pow_pos k);have h4:4294967296^M*2^k<=4294967296^M*4294967296:=axl _ h2;rw[Nat.pow_succ];omega
def Qnp{l:List Nat}{m:Nat}(hm:m<=l.length)(h:wv l<4294967296^m):wv (l.take m)=wv l:=by
 have h1:=Qdq l m hm;have h2:wv (l.drop m)=0:=by
  rcases axh (wv (l.drop m)) with h0|h0
  .exact h0
  .have:4294967296^m*1<=4294967296^m*wv (l.drop m):=axl _ h0;omega
 rw[h2,Nat.mul_zero,Nat.add_zero] at h1;exact h1.symm
def Qww{l:List Nat}(ol:WOk l):Qac (wv l)=l.take (Qac (wv l)).length:=by
 have hle:(Qac (wv l)).length<=l.length:=Qal (Qgu ol);have h1:=Qnp hle (Qbr (wv l));have ot:=Qen ol (Qac (wv l)).length;generalize hk:(Qac (wv l)).length=k at *
 have h2:∀(a b:List Nat),WOk a->WOk b->a.length=b.length->wv a=wv b->a=b:=by
  intro a
  induction a with
  | nil=>intro b _ _ h _;cases b with|nil=>rfl|cons y b=>simp at h
  | cons x a ih =>
   intro b oa ob h hv;cases b with
   | nil=>simp at h
   | cons y b =>
    rw[Qdz] at oa ob;rw[Qhn,Qhn] at hv;simp at h;have e1:x=y:=by omega
    have e2:wv a=wv b:=by omega
    rw[e1,ih b oa.2 ob.2 h e2]
 refine h2 _ _ (Qap _) ot ?_ ?_
 .rw[hk,List.length_take,Nat.min_eq_left hle]
 .rw[Qaq,h1]
end Tr
namespace Go.Proofs.YtmimficdpfmfgaaGreat
open Go.RowKit Tr Proofs.Tryz
def Kje:((prog).info? 268).map (·.size)=some 1:=by kernel_rfl
def Blk.setRow{w:World}{B:Nat}{l0:List Nat}(h:Blk w B l0){arr:Array Value}{l:List Nat}(e:arr=Qlf l):Blk (w.setRow B arr) B l:=by
 rw[e];exact setRow_heap w B _ _ _ _ h
def Khd(l:List Nat)(n:Nat):((Qlf (List.replicate n 0)).toList.take 0++(l.map fun x:Nat=>Value.int .u32 (x:Int))++(Qlf (List.replicate n 0)).toList.drop (0+(l.map fun x:Nat=>Value.int .u32 (x:Int)).length)).toArray=Qlf (l++List.replicate (n-l.length) 0):=by
 simp[Qlf]
def Qvf{a b:Nat}(h:b<=a):¬Qdw a b<0:=by
 unfold Qdw;rw[if_neg (by omega)];split<;>decide
def Blk.set_ne{w:World}{B C:Nat}{l:List Nat}(h:Blk w B l)(hne:B≠C)(i:Nat)(v:Value):Blk (w.setCell ⟨C,i,none⟩ v) B l:=by
 unfold Blk at *
 rw[Below.heap_setCell _ _ _ _ hne];exact h
def Qiu{w:World}{p:Option Addr}{l:List Nat}(h:Row w p l){C:Nat}(hne:∀ b off,p=some ⟨b,off,none⟩->b≠C)(i:Nat)(v:Value):Row (w.setCell ⟨C,i,none⟩ v) p l:=by
 intro hx;obtain⟨b,off,h1,h2,h3⟩:=h hx;refine⟨b,off,h1,by simpa[World.setCell] using h2,fun j hj=>?_⟩;rw[World.cell?_of_block (w:=w) (Below.heap_setCell _ _ _ _ (hne _ _ h1))];exact h3 j hj
def Kpf(l:List Nat)(n:Nat)(hn:l.length=n)(ol:WOk l)(p:Option Addr)(c:Nat)(w:World)(hl:Row w p l)(hc:n<=c)(hm:n<1099511627776) :
  Calls prog 287 #[.slice p n c] w fun e w'=>e=.returned (.slice p (Qac (wv l)).length c)/\w'=w:=by
 refine(Kpg l n hn ol p c w hl hc hm).mono ?_;rintro e w' ⟨k,h1,h2,rfl,rfl⟩;rw[<-h2,List.length_take,Nat.min_eq_left (by omega)];exact⟨rfl,rfl⟩
def Kph(l:List Nat)(n:Nat)(hn:l.length=n)(ol:WOk l)(p:Option Addr)(c:Nat)(w:World)(hl:Row w p l)(hc:n<=c):WSl w (.slice p (Qac (wv l)).length c) (Qac (wv l)):=by
 have hle:(Qac (wv l)).length<=n:=by rw[<-hn];exact Qal (Qgu ol)
 refine⟨p,c,rfl,by omega,fun hne=>?_⟩;have hne2:l≠[]:=by intro h;rw[h] at hne;simp[wv,Qay] at hne
 obtain⟨b,off,h1,h2,h3⟩:=hl hne2;have hw:=Qww ol;refine⟨b,off,h1,h2,fun j hj=>?_⟩;rw[h3 j (by omega),hw,List.getElem?_take_of_lt hj]
def Blk.row{w:World}{B:Nat}{l:List Nat}(h:Blk w B l):Row w (some ⟨B,0,none⟩) l:=fun _=>⟨B,0,rfl,h.lt,fun j hj=>by rw[Nat.zero_add];exact h.cell hj⟩
def Blk.row_take{w:World}{B:Nat}{l:List Nat}(h:Blk w B l)(k:Nat):Row w (some ⟨B,0,none⟩) (l.take k):=fun _=>⟨B,0,rfl,h.lt,fun j hj=>by
 simp at hj;rw[Nat.zero_add,h.cell (by omega),List.getElem?_take_of_lt (by omega)]⟩
def Kdr(a b M m:Nat)(hM:(Qac a).length=M)(hm:(Qac b).length=m)(hm2:2<=m)(hba:b<=a)(pa pb:Option Addr)(ca cb:Nat)(w:World)(ha:WSl w (.slice pa M ca) (Qac a))(hb:WSl w (.slice pb m cb) (Qac b))(hn:M<274877906944) :
  Calls prog 285 #[.slice pa M ca,.slice pb m cb] w fun e w'=>∃ v1 v2,e=.returned (.tuple #[v1,v2])/\WSl w' v1 (Qac (a/b))/\WSl w' v2 (Qac (a%b))/\Below w.heap.size w w':=by
 have H:=hid (And.intro hM hm);have hmM:m<=M:=by
  rcases Nat.lt_or_ge M m with h|h
  .have:=Qdt (a:=a) (b:=b) (by omega);omega
  .exact h
 have hun:=fun w=>Qhj a b (.slice pa M ca) (.slice pb m cb) w
 have HC:=hid (Qvf hba);have HA:=hid (And.intro ha hb);clear hM hm ha hb
 go_enter func285,Tryz.ntmps285
 obtain⟨z,hz⟩:∃ z,z=Qdw a b:=⟨_,rfl⟩
 have hz0:¬z<0:=by rw[hz];exact HC.out
 have hm1:¬(m:Int)=1:=by omega
 rw[<-hz] at hun;have HUN:=hid hun;clear hz hun;obtain⟨bt,hbt⟩:∃ bt,bt=(Qac b)[m-1]?.getD 0:=⟨_,rfl⟩
 obtain⟨bb,ob,rfl,hbb,hbc⟩:∃ bb ob,pb=some ⟨bb,ob,none⟩/\bb<w.heap.size/\∀ j,j<m->w.cell? ⟨bb,ob+j,none⟩=some (.int .u32 ((Qac b)[j]?.getD 0:Nat)):=by
  obtain⟨p,c,h1,h2,h3⟩:=HA.out.2;obtain⟨bb,ob,h4,h5,h6⟩:=h3 (by intro h;have:=H.out.2;rw[h] at this;simp at this;omega);injection h1 with e1 e2 e3
  exact⟨bb,ob,by rw[e1,h4],h5,fun j hj=>h6 j (by have:=H.out.2;omega)⟩
 have c0:w.cell? ⟨bb,ob+(m-1),none⟩=some (.int .u32 bt):=by rw[hbt];exact hbc _ (by omega)
 have em:((m-1:Nat):Int)=(m:Int)-1:=by omega
 have hbt0:0<bt/\bt<4294967296:=by
  have hlen:=H.out.2;have hne:Qac b≠[]:=by intro h;rw[h] at hlen;simp at hlen;omega
  have h1:=Qjm b _ _ (List.dropLast_concat_getLast hne).symm;have h2:(Qac b)[m-1]?.getD 0=(Qac b).getLast hne:=by
   rw[List.getLast_eq_getElem,axi (by omega)];simp[hlen]
  rw[hbt,h2];exact⟨by omega,Qap b _ (List.getLast_mem hne)⟩
 have HBT:=hid hbt;have HBC:=hid hbc;have HEM:=hid em;clear hbt hbc em
 go_wp2_with (first|(go_at_call 264;refine(HUN.out _ HA.out.1 HA.out.2 (by have:=H.out;omega)).mono ?_;rintro e w' ⟨rfl,d,rfl⟩))
 have HB0:=hid (Qbs (Below.refl w.heap.size w) d)
 go_loopw [8,9] (fun by_ t wr=>∃ k x:Nat,by_=.int .i64 k/\t=.int .u32 x/\Hid (x=bt*2^k)/\x<4294967296/\k<=31/\wr=w.drewN d) (fun by_ _ _=>32-(intOf by_).toNat)
 case atStart=>exact⟨0,bt,rfl,rfl,hid (by simp),hbt0.2,by omega,rfl⟩
 case round =>
  obtain⟨k,x,rfl,rfl,hx,hx2,hk,rfl⟩:=hrel
  by_cases hlt:x<2147483648
  .have hk2:k<31:=by
    rcases Nat.lt_or_ge k 31 with h|h
    .exact h
    .have h1:(2:Nat)^31<=2^k:=axg (by decide) h;have h2:1*2^k<=bt*2^k:=Nat.mul_le_mul_right _ hbt0.1;have:=hx.out;omega
   have hx':Hid (x*2=bt*2^(k+1)):=hid (by rw[hx.out,Nat.pow_succ,Nat.mul_assoc]);have hz:(x:Int)/2147483648=0:=by omega
   go_wp2
   go_roundw
   case rel=>exact⟨k+1,x*2,by go_num,by go_num,hx',by omega,by omega,by first|trivial|rfl⟩
   case measure=>simp[intOf];omega
  .have hz:¬(x:Int)/2147483648=0:=by omega
   have HX:=hid (And.intro hx.out hx2);clear hx hx2 hlt;have hnl:=hid (Khw (k:=k) H.out.2 (by omega) HBT.out (by have:=HX.out;omega) (by omega));have hul:=hid (Ueb (k:=k) H.out.1 (by omega))
   go_wp2_with fail
   refine(Qxw (Qac b) k _ _ (Qap b) (HA.out.2.drewN d) (by have:=H.out;omega) (by omega)).mono ?_;rintro e w1 ⟨v,rfl,hv,hb1⟩;rw[Qaq] at hv;obtain⟨V,hV⟩:∃ V,V=b*2^k:=⟨_,rfl⟩
   rw[<-hV] at hv hnl;obtain⟨pv,cv,rfl,hcv,hrow⟩:=hv;rw[hnl.out];have HV:=hid (And.intro hV (And.intro hcv hrow));have hb1':=HB0.out.trans (hb1.mono (by simp));clear hV hcv hrow;have hmk:=Qgr (M+1) (by omega);have en:((M+1:Nat):Int)=(M:Int)+1:=by omega
   rw[en] at hmk;clear en
   go_wp2_with fail
   have hb1u:=hb1'.alloc hb1'.size (Obj.cells (Qlf (List.replicate (M+1) 0)) 268);refine(Qxw (Qac a) k _ _ (Qap a) (HA.out.1.below hb1u) (by have:=H.out;omega) (by omega)).mono ?_;rintro e w2 ⟨v,rfl,hv,hb2⟩;rw[Qaq] at hv;obtain⟨A,hA'⟩:∃ A,A=a*2^k:=⟨_,rfl⟩
   rw[<-hA'] at hv hul;obtain⟨pA,cA,rfl,hcA,hrowA⟩:=hv;obtain⟨n2,hn2⟩:∃ n2,(Qac A).length=n2:=⟨_,rfl⟩
   rw[hn2] at hrowA hcA hul ⊢;have hne:Qac A≠[]:=by
    intro h;have h1:=Qbz.1 h;have h2:0<a:=by
     rcases axh a with h0|h0
     .have h3:=H.out;rw[show b=0 by omega,Qay] at h3;simp at h3;omega
     .exact h0
    have:=Nat.mul_pos h2 (Nat.two_pow_pos k);omega
   obtain⟨bA,oA,rfl,hbA,hcellA⟩:=hrowA hne;have hu2:Blk w2 w1.heap.size (List.replicate (M+1) 0):=(Blk.new w1 _).below hb2;have hb2':=hb1u.trans (hb2.mono hb1u.size);have HAA:=hid (And.intro hA' hn2);have HUL:=hid hul.out;have hcs1:((Qac A).map fun x:Nat=>Value.int .u32 (x:Int)).length=Nat.min n2 (M+1):=by rw[List.length_map,hn2];exact(Nat.min_eq_left hul.out).symm
   have hcs2:∀(j:Nat) (v:Value),((Qac A).map fun x:Nat=>Value.int .u32 (x:Int))[j]?=some v->w2.cell? ((⟨bA,oA,none⟩:Addr).add j)=some v:=fun j v hj=>by
    rw[List.getElem?_map] at hj;obtain⟨y,hy,rfl⟩:=Option.map_eq_some_iff.1 hj;have hlt:=(axb.1 hy).1;have h1:=hcellA j (by omega);rw[hy] at h1;rw[Addr.add_lit];simpa using h1
   have HCS:=hid (And.intro hcs1 hcs2);clear hA' hn2 hul hcs1 hcs2 hrowA hcellA hne;have hcs4:∀ v∈((Qac A).map fun x:Nat=>Value.int .u32 (x:Int)),v.oneCell'=true:=by intro v hv;obtain⟨y,_,rfl⟩:=List.mem_map.1 hv;rfl
   have hcs3:0+((Qac A).map fun x:Nat=>Value.int .u32 (x:Int)).length<=(Qlf (List.replicate (M+1) 0)).size:=by rw[HCS.out.1,Kcc,List.length_replicate,Nat.zero_add];exact Nat.min_le_right _ _
   have hcp:=run_copy_row (P:=prog) w2 228 228 3 268 w1.heap.size 0 (M+1) (M+1) ⟨bA,oA,none⟩ n2 cA (Qlf (List.replicate (M+1) 0)) 268 _ Tryz.underlying228 Kje hu2 HCS.out.1 HCS.out.2 hcs3 hcs4;rw[Khd] at hcp;obtain⟨w3,hw3⟩:∃ w3,w3=w2.setRow w1.heap.size (Qlf (Qac A++List.replicate (M+1-(Qac A).length) 0)):=⟨_,rfl⟩
   rw[<-hw3] at hcp;have hu3:Blk w3 w1.heap.size (Qac A++List.replicate (M+1-(Qac A).length) 0):=by rw[hw3];exact hu2.setRow rfl
   have hb3':Below w.heap.size w w3:=by rw[hw3];exact below_setRow hb2' hb1'.size _
   have hv3:Row w3 pv (Qac V):=by
    intro hne;obtain⟨b5,o5,h1,h2,h3⟩:=HV.out.2.2 hne;refine⟨b5,o5,h1,by rw[hw3];have:=hb2.size;simp[World.setRow] at this ⊢;omega,fun j hj=>?_⟩;have hb13:Below w1.heap.size w1 w3:=by rw[hw3];exact below_setRow ((br.alloc lr _).trans (hb2.mono (by simp))) lr _
    exact(hb13.cell (p:=⟨b5,o5+j,none⟩) h2).trans (h3 j (by have:=hnl.out;omega))
   clear hcs3 hcs4 hw3;have hmk2:=Qgr (M+1-m) (by omega);have en2:((M+1-m:Nat):Int)=(M:Int)+1-(m:Int):=by omega
   rw[en2] at hmk2;clear en2
   go_wp2_with fail
   obtain⟨u0,hu0⟩:∃ u0,u0=Qac A++List.replicate (M+1-(Qac A).length) 0:=⟨_,rfl⟩
   rw[<-hu0] at hu3;have lu0:u0.length=M+1:=by rw[hu0];have:=HAA.out.2;have:=HUL.out;simp;omega
   have wu0:wv u0=A:=by rw[hu0,Qix,Qel,Qaq];simp
   have ou0:WOk u0:=by rw[hu0,Qgf];exact⟨Qap A,Qbn _⟩
   have H0:=hid (And.intro lu0 (And.intro wu0 ou0));clear hu0 lu0 wu0 ou0 hcp HCS;obtain⟨bu,hbu⟩:∃ bu,bu=w1.heap.size:=⟨_,rfl⟩
   rw[<-hbu] at hu3 ⊢;have HBU:=hid hbu;have hsz1:=hu3.lt;clear hbu;obtain⟨D,hD⟩:∃ D,M+1-m=D:=⟨_,rfl⟩
   have hDm:D+m=M+1:=by omega
   rw[hD] at ⊢;clear hD;have hq4:=Blk.new w3 (List.replicate D 0);obtain⟨bq,hbq⟩:∃ bq,bq=w3.heap.size:=⟨_,rfl⟩
   have hb4:Below w3.heap.size w3 (w3.alloc (.cells (Qlf (List.replicate D 0)) 268)):=br.alloc lr _;have hu4:=hu3.below hb4;have hb4':=hb3'.trans (hb4.mono hb3'.size);have hv4:Row (w3.alloc (.cells (Qlf (List.replicate D 0)) 268)) pv (Qac V):=by
    intro hne;obtain⟨b5,o5,h1,h2,h3⟩:=hv3 hne;exact⟨b5,o5,h1,by simp;omega,fun j hj=>(hb4.cell (p:=⟨b5,o5+j,none⟩) h2).trans (h3 j hj)⟩
   have hstart:Hid (wv (u0.drop D)<V):=hid (by
    have h1:D<=u0.length:=by rw[H0.out.1];omega
    rw[<-Qwx H0.out.2.2 D h1,H0.out.2.1,HAA.out.1,HV.out.1];exact Qvw H.out.1 H.out.2 (by omega) (by omega))
   rw[<-hbq] at hq4 ⊢;have HBQ:=hid hbq;have hsz2:bu<bq:=by omega
   clear hb4 hv3 hbq;obtain⟨w4,hw4⟩:∃ w4,w4=w3.alloc (.cells (Qlf (List.replicate D 0)) 268):=⟨_,rfl⟩
   rw[<-hw4] at hq4 hu4 hb4' hv4 ⊢;clear hw4 hmk2 hu3
   go_loopw [13,14,15,16] (fun j _ _ _ wr=>∃(i:Nat) (cur quo:List Nat),i<=D/\j=.int .i64 ((i:Int)-1)/\Hid (cur.length=M+1)/\WOk cur/\Hid (quo.length=D)/\WOk quo/\Hid (∀ t,t<i->cur[t]?=u0[t]?)/\Hid (wv (cur.drop i)=wv (u0.drop i)%V)/\Hid (wv (quo.drop i)=wv (u0.drop i)/V)/\Blk wr bu cur/\Blk wr bq quo/\Hid (Row wr pv (Qac V))/\Below w.heap.size w wr)
    (fun j _ _ _ _=>(intOf j+1).toNat)
   case atStart =>
    refine⟨D,u0,List.replicate D 0,Nat.le_refl _,?_,hid H0.out.1,H0.out.2.2,hid (by simp),Qbn _,hid (fun _ _=>rfl),hid (Nat.mod_eq_of_lt hstart.out).symm,hid ?_,hu4,hq4,hid hv4,hb4'⟩
    .congr 1;omega
    .rw[axj (by simp),Nat.div_eq_of_lt hstart.out];rfl
   case round =>
    obtain⟨i,cur,quo,hi,rfl,hlc,oc,hlq,oq,hsame,hmod,hdiv,hbc,hbq4,hrv,hB4⟩:=hrel;cases i with
    | zero =>
     have hVp:0<V:=by
      rcases axh V with h0|h0
      .have h1:=hnl.out;rw[h0,Qay] at h1;simp at h1;omega
      .exact h0
     have hcv:=hmod.out;have hqv:=hdiv.out;rw[List.drop_zero,List.drop_zero,H0.out.2.1] at hcv hqv;have hVm:V<4294967296^m:=by have:=Qbr V;rwa[hnl.out] at this
     have hct:wv (cur.take m)=A%V:=by
      rw[Qnp (by have:=hlc.out;omega) (by rw[hcv];exact Nat.lt_trans (Nat.mod_lt _ hVp) hVm),hcv]
     have eA:A%V=a%b*2^k:=by rw[HAA.out.1,HV.out.1,Nat.mul_mod_mul_right]
     have eQ:A/V=a/b:=by rw[HAA.out.1,HV.out.1,Nat.mul_div_mul_right _ _ (Nat.two_pow_pos k)]
     have hlt:(cur.take m).length=m:=by rw[List.length_take,hlc.out];omega
     have cd1:=Kpf quo D hlq.out oq (some ⟨bq,0,none⟩) D wr.drew hbq4.row lr (by omega);have cw1:=Kph quo D hlq.out oq (some ⟨bq,0,none⟩) D wr.drew hbq4.row lr;have cd2:=Kpf (cur.take m) m hlt (Qen oc m) (some ⟨bu,0,none⟩) (M+1) wr.drew (hbc.row_take m) (by omega) (by omega);have cw2:=Kph (cur.take m) m hlt (Qen oc m) (some ⟨bu,0,none⟩) (M+1) wr.drew (hbc.row_take m) (by omega);rw[hqv,eQ] at cd1 cw1;rw[hct,eA] at cd2 cw2;obtain⟨n3,hn3⟩:∃ n3,n3=(Qac (a/b)).length:=⟨_,rfl⟩
     obtain⟨n4,hn4⟩:∃ n4,n4=(Qac (a%b*2^k)).length:=⟨_,rfl⟩
     rw[<-hn3] at cd1 cw1;rw[<-hn4] at cd2 cw2;have hle4:n4<=m:=by
      rw[hn4];refine Qal (Nat.lt_trans ?_ hVm);rw[<-eA];exact Nat.mod_lt _ hVp
     have hrt:=fun(w9:World) (h:WSl w9 (.slice (some ⟨bu,0,none⟩) n4 (M+1)) (Qac (a%b*2^k)))=>Kbr (Qac (a%b*2^k)) k _ w9 (Qap _) h (by omega) (by omega)
     rw[Qaq,Nat.mul_div_cancel _ (Nat.two_pow_pos k)] at hrt;have HR:=hid hrt;have HC1:=hid cd1;have HC2:=hid cd2;have HE:=hid (And.intro hn3 hn4);clear hrt cd1 cd2 hn3 hn4 hcv hqv hVm hct eA eQ hlt;rw[show(((0:Nat):Int)-1)=-1 from rfl];have hmM1:(m:Int)<=(M:Int)+1:=by omega
     go_wp2_with fail
     refine Qgi 7 kR kR ?_;simp only[List.take_succ_cons,List.take_zero,List.drop_succ_cons,List.drop_zero]
     still_step
     still_call HC1.out
     still_step
     still_step
     still_step
     still_call HC2.out
     still_step
     refine wpStill_nil ?_
     go_wp2_with (go_at_call 298;refine(HR.out _ cw2).mono ?_;rintro e w' ⟨v,rfl,hv,hb9⟩)
     go_ret2
     exact⟨_,_,rfl,cw1.below hb9,hv,hB4.drew.trans (hb9.mono (by have:=hB4.size;simpa using this))⟩
    | succ i =>
     have ei:((i+1:Nat):Int)-1=(i:Int):=by omega
     rw[ei];clear ei;have hiM:i+m<M+1:=by omega
     have c5:=hbc.cell (i:=i+m) (by have:=hlc.out;omega);have c6:=hbc.cell (i:=i+m-1) (by have:=hlc.out;omega);have c7:=hbc.cell (i:=i+m-2) (by have:=hlc.out;omega);have bx1:cur[i+m]?.getD 0<4294967296:=Qci oc _;have bx2:cur[i+m-1]?.getD 0<4294967296:=Qci oc _;have bx3:cur[i+m-2]?.getD 0<4294967296:=Qci oc _;obtain⟨x1,hx1⟩:∃ x1,x1=cur[i+m]?.getD 0:=⟨_,rfl⟩
     obtain⟨x2,hx2⟩:∃ x2,x2=cur[i+m-1]?.getD 0:=⟨_,rfl⟩
     obtain⟨x3,hx3⟩:∃ x3,x3=cur[i+m-2]?.getD 0:=⟨_,rfl⟩
     rw[<-hx1] at c5 bx1;rw[<-hx2] at c6 bx2;rw[<-hx3] at c7 bx3;have HXX:=hid (And.intro hx1 (And.intro hx2 hx3));have hwt:=Qwv (i:=i) hm2 oc (by have:=hlc.out;omega);rw[show wat cur (i+m)=x1 from hx1.symm,show wat cur (i+m-1)=x2 from hx2.symm,show wat cur (i+m-2)=x3 from hx3.symm] at hwt;have HWT:=hid hwt;clear hwt;clear hx1 hx2 hx3;have hor:=Qoq bx1 bx2;have hVp:Hid (0<V):=hid (by
      rcases axh V with h0|h0
      .have h1:=hnl.out;rw[h0,Qay] at h1;simp at h1;omega
      .exact h0)
     have hXV:Hid (wv (cur.drop (i+1))<V):=hid (by rw[hmod.out];exact Nat.mod_lt _ hVp.out);have HW:Hid (wv ((cur.drop i).take (m+1))=wat cur i+4294967296*wv (cur.drop (i+1))):=hid (Ued oc (by have:=hlc.out;omega) (by have h1:=Qbr V;rw[hnl.out] at h1;have:=hXV.out;omega));obtain⟨b5,o5,hpv,hb5,hc5⟩:=hrv.out (by intro h;have:=hnl.out;rw[h] at this;simp at this;omega);have c8:=hc5 (m-1) (by have:=hnl.out;omega);have c9:=hc5 (m-2) (by have:=hnl.out;omega);have by1:(Qac V)[m-1]?.getD 0<4294967296:=Qci (Qap V) _;have by2:(Qac V)[m-2]?.getD 0<4294967296:=Qci (Qap V) _;obtain⟨y1,hy1⟩:∃ y1,y1=(Qac V)[m-1]?.getD 0:=⟨_,rfl⟩
     obtain⟨y2,hy2⟩:∃ y2,y2=(Qac V)[m-2]?.getD 0:=⟨_,rfl⟩
     rw[<-hy1] at c8 by1;rw[<-hy2] at c9 by2;have hy0:0<y1:=by
      have hlen:=hnl.out;have hne:Qac V≠[]:=by intro h;rw[h] at hlen;simp at hlen;omega
      have h1:=Qjm V _ _ (List.dropLast_concat_getLast hne).symm;have h2:(Qac V)[m-1]?.getD 0=(Qac V).getLast hne:=by
       rw[List.getLast_eq_getElem,axi (by omega)];simp[hlen]
      rw[hy1,h2];omega
     have HYY:=hid (And.intro hy1 hy2);have hdt:=Qrv hm2 hnl.out;rw[show wat (Qac V) (m-1)=y1 from hy1.symm,show wat (Qac V) (m-2)=y2 from hy2.symm] at hdt;have HDT:=hid hdt;clear hdt;have HC5:=hid hc5;have i6:(0:Int)<=(m:Int)-1:=by omega
     have i7:((m:Int)-1).toNat=m-1:=by omega
     have i8:(0:Int)<(y1:Int):=by omega
     clear hy1 hy2 hc5;subst hpv;have i0:(0:Int)<=(i:Int)+(m:Int):=by omega
     have i1:(i:Int)+(m:Int)<(M:Int)+1:=by omega
     have i2:(0:Int)<=(i:Int)+(m:Int)-1:=by omega
     have i3:(i:Int)+(m:Int)-1<(M:Int)+1:=by omega
     have i4:((i:Int)+(m:Int)).toNat=i+m:=by omega
     have i5:((i:Int)+(m:Int)-1).toNat=i+m-1:=by omega
     go_wp2
     go_quiet (fail)
     go_wp2_with fail
     go_quiet (fail)
     go_wp2_with fail
     obtain⟨wo,hwo⟩:∃ wo:World,wo=wr:=⟨_,rfl⟩
     have hbuw:Hid (w.heap.size<=bu):=hid (by rw[HBU.out];exact hb1'.size);have hne:Hid (∀ b off,(some ⟨b5,o5,none⟩:Option Addr)=some ⟨b,off,none⟩->b<bu):=hid (fun b off e=>by
      obtain⟨b6,o6,h1,h2,h3⟩:=HV.out.2.2 (by intro h;have:=hnl.out;rw[h] at this;simp at this;omega);cases e;cases h1;have:=HBU.out;omega)
     have hUV:Hid (wat cur i+4294967296*wv (cur.drop (i+1))<4294967296*V):=hid (Kqx (Qci oc i) hXV.out);have hdig:Hid ((wat cur i+4294967296*wv (cur.drop (i+1)))/V<4294967296):=hid (by rw[Nat.div_lt_iff_lt_mul hVp.out];exact hUV.out)
     go_loopw [15,16] (fun c r_ wr2=>∃(q r:Nat),c=.int .u64 q/\r_=.int .u64 r/\Hid (q*y1+r=x1*4294967296+x2)/\r<4294967296/\q<18446744073709551616/\Hid ((wat cur i+4294967296*wv (cur.drop (i+1)))/V<=q)/\∃ dd,wr2=wo.drewN dd) (fun c _ _=>(intOf c).toNat)
     case atStart =>
      obtain⟨ul,hul1,hul2⟩:=HWT.out;obtain⟨vl,hvl1,hvl2⟩:=HDT.out;have hle:(x1*4294967296+x2)/y1<=x1*4294967296+x2:=Nat.div_le_self _ _;have hmd:=Nat.mod_lt (x1*4294967296+x2) hy0;refine⟨(x1*4294967296+x2)/y1,(x1*4294967296+x2)%y1,by simp,by simp,hid ?_,by omega,by omega,hid ?_,?_⟩
      .rw[Nat.mul_comm];exact Nat.div_add_mod _ _
      .rw[<-HW.out];exact Kam hul2 hul1 bx3 hvl2 hy0
      .rw[hwo,World.drewN_drewN];exact⟨_,rfl⟩
     case round =>
      obtain⟨q,r,rfl,rfl,hqr,hr,hq64,hQq,dd,rfl⟩:=hrel;have i9:(0:Int)<=(m:Int)-2:=by omega
      have i10:((m:Int)-2).toNat=m-2:=by omega
      have i11:(0:Int)<=(i:Int)+(m:Int)-2:=by omega
      have i12:((i:Int)+(m:Int)-2).toNat=i+m-2:=by omega
      have i13:(i:Int)+(m:Int)-2<(M:Int)+1:=by omega
      have hor3:=Qoq hr bx3;subst hwo;have hnext:=fun h=>Kli (q:=q) (r:=r) (y2:=y2) HWT.out HDT.out hqr.out (by rw[HW.out];exact hQq.out) (by rw[HW.out];exact hdig.out) h
      have hfin:=Kqn (q:=q) (r:=r) HWT.out HDT.out hy0 by2 hqr.out (by rw[HW.out];exact hUV.out);rw[HW.out] at hnext hfin;have HNX:=hid (And.intro hnext hfin);clear hnext hfin
      by_cases hexit:q<4294967296/\¬r*4294967296+x3<q*y2
      .obtain⟨hqB,htest⟩:=hexit;have HT:=hid htest;clear htest hor hor3;have hg:decide ((4294967296:Int)<=(q:Int))=false:=by simp;omega
       go_wp2_with fail
       have hor3:=Qoq hr bx3;have hxy:=Qla hqB by2;have ht:decide ((r:Int)*4294967296+(x3:Int)<(q:Int)*(y2:Int))=false:=by
        have:¬((r*4294967296+x3:Nat):Int)<((q*y2:Nat):Int):=by have:=HT.out;omega
        simpa using this
       have ht2:¬(r:Int)*4294967296+(x3:Int)<(q:Int)*(y2:Int):=by simpa using ht
       go_quiet (fail)
       rw[World.drewN_drewN];clear hor3 hxy ht ht2
       go_wp2_with fail
       rw[show i+m+1-i=m+1 by omega];obtain⟨qf,hqf⟩:∃ qf,qf=q:=⟨_,rfl⟩
       rw[<-hqf];have hqf1:qf<4294967296:=by omega
       have hqf2:Hid (qf*V<=wat cur i+4294967296*wv (cur.drop (i+1))+V):=hid (by rw[hqf];exact HNX.out.2.1 hqB HT.out);have hqf3:Hid (wat cur i+4294967296*wv (cur.drop (i+1))<(qf+1)*V):=hid (by rw[<-Nat.div_lt_iff_lt_mul hVp.out,hqf];exact Nat.lt_succ_of_le hQq.out);obtain⟨dz,hdz⟩:∃ dz,dz=dd+nq:=⟨_,rfl⟩
       rw[<-hdz];clear hqf hdz;obtain⟨R,hR⟩:∃ R,wv ((cur.drop i).take (m+1))/wv (Qac V)=R:=⟨_,rfl⟩
       have hR32:R<4294967296:=by rw[<-hR,Qaq,HW.out];exact hdig.out
       have hstp:=Qti cur (Qac V) bu i (m+1) m qf (M+1-i) cv rfl hnl.out (by have:=hlc.out;omega) oc (Qap V) (some ⟨b5,o5,none⟩) (wo.drewN dz) (hbc.drewN _) hrv.out (fun b off e=>Nat.ne_of_lt (hne.out b off e)) hqf1 (by rw[Qaq,HW.out];exact hqf2.out) (by rw[Qaq,HW.out];exact hqf3.out) (by omega) R hR;have HS:=hid hstp;have HR:=hid hR;clear hstp hR;refine HS.out.mono ?_;rintro e w5 ⟨l',rfl,hl1,hl2,hl3,hl4,hbl,hgr⟩;have HL:=hid (And.intro hl1 (And.intro hl3 hl4));clear hl1 hl3 hl4 HS;have hsz5:wo.heap.size<=w5.heap.size:=hgr.size;have hbq5:Blk w5 bq quo:=(hgr.block bq hbq4.lt (by intro e;cases e;omega)).trans hbq4;have hrv5:Hid (Row w5 (some ⟨b5,o5,none⟩) (Qac V)):=hid (fun hx=>by
        obtain⟨b6,o6,h1,h2,h3⟩:=hrv.out hx;refine⟨b6,o6,h1,axc h2 hsz5,fun j hj=>(Qip hgr h2 (Nat.ne_of_lt (hne.out _ _ h1))).trans (h3 j hj)⟩)
       have hB5:Below w.heap.size w w5:=(Qbs hB4 dz).grown hgr (by have:=hB4.size;simpa using this) (fun k e=>by cases e;exact hbuw.out);have cq:=hbq5.cell (i:=i) (by have:=hlq.out;omega);have fq:=hbq5.frozen i;have iR:(R:Int)%4294967296=(R:Int):=by omega
       clear hrv hb5 HC5 c5 c6 c7 c8 c9 hbc hbq4 hB4
       go_wp2_with fail
       obtain⟨hd1,hd2⟩:=Qku (V:=V) hVp.out (hsame.out i (by omega)) hmod.out hdiv.out (by have:=hlq.out;omega) (R:=R) (by rw[<-HR.out,Qaq,HW.out]);refine⟨⟨i,l',quo.set i R,by omega,rfl,hid (HL.out.1.trans hlc.out),hl2,hid (by have:=hlq.out;simpa using this),Qcv oq _ _ hR32,hid (fun t ht=>?_),hid ?_,hid hd2,hbl.set_ne (by omega) _ _,hbq5.set _ _,hid (Qiu hrv5.out (fun b off e=>by have:=hne.out b off e;omega) _ _),hB5.setCell (p:=⟨bq,i,none⟩) (by have:=hbuw.out;show w.heap.size<=bq;omega) _⟩,?_⟩
       .rw[HL.out.2.1 t (by omega)];exact hsame.out t (by omega)
       .rw[Qkv (cur:=cur) (m:=m) (by have:=hlc.out;omega) HL.out.1 HL.out.2.1 (Nat.lt_trans hXV.out (by have:=Qbr V;rwa[hnl.out] at this)),HL.out.2.2,Qaq,HW.out];exact hd1
       .simp[intOf]
      .have hq1:(1:Int)<=(q:Int):=by
        rcases axh q with h0|h0
        .exfalso;apply hexit;subst h0;simp
        .omega
       have hor3:=Qoq hr bx3;clear hor
       by_cases hqB:q<4294967296
       .have HT:Hid (r*4294967296+x3<q*y2):=hid (by
         rcases Nat.lt_or_ge (r*4294967296+x3) (q*y2) with h|h
         .exact h
         .exact absurd ⟨hqB,Nat.not_lt.2 h⟩ hexit)
        have HX:=hid hexit;clear hexit hor3;have hg:decide ((4294967296:Int)<=(q:Int))=false:=by simp;omega
        go_wp2_with fail
        have hor3:=Qoq hr bx3;have hxy:=Qla hqB by2;have ht:(r:Int)*4294967296+(x3:Int)<(q:Int)*(y2:Int):=by
         have:((r*4294967296+x3:Nat):Int)<((q*y2:Nat):Int):=by have:=HT.out;omega
         simpa using this
        go_quiet (fail)
        rw[World.drewN_drewN];clear hor3 hxy ht
        by_cases hbig:(r:Int)+(y1:Int)<4294967296
        .have hb2:decide ((4294967296:Int)<=(r:Int)+(y1:Int))=false:=by simp;omega
         go_wp2_with fail
         obtain⟨hn1,hn2⟩:=HNX.out.1 HX.out;exact⟨⟨q-1,r+y1,by congr 1;omega,by congr 1,hid hn2,by omega,by omega,hid hn1,_,rfl⟩,by simp[intOf];omega⟩
        .have hb2:decide ((4294967296:Int)<=(r:Int)+(y1:Int))=true:=by simp;omega
         go_wp2_with fail
         rw[show i+m+1-i=m+1 by omega];obtain⟨qf,hqf⟩:∃ qf,qf=q-1:=⟨_,rfl⟩
         rw[show(q:Int)-1=(qf:Int) by omega];have hqb:=HNX.out.2.2 (by omega) (by omega);have hqf1:qf<4294967296:=by rw[hqf];exact hqb.1
         have hqf2:Hid (qf*V<=wat cur i+4294967296*wv (cur.drop (i+1))+V):=hid (by rw[hqf];exact hqb.2);have hqf3:Hid (wat cur i+4294967296*wv (cur.drop (i+1))<(qf+1)*V):=hid (by rw[<-Nat.div_lt_iff_lt_mul hVp.out,hqf];exact Nat.lt_succ_of_le (HNX.out.1 HX.out).1);obtain⟨dz,hdz⟩:∃ dz,dz=dd+nq:=⟨_,rfl⟩
         rw[<-hdz];clear hqf hdz hqb hb2;obtain⟨R,hR⟩:∃ R,wv ((cur.drop i).take (m+1))/wv (Qac V)=R:=⟨_,rfl⟩
         have hR32:R<4294967296:=by rw[<-hR,Qaq,HW.out];exact hdig.out
         have hstp:=Qti cur (Qac V) bu i (m+1) m qf (M+1-i) cv rfl hnl.out (by have:=hlc.out;omega) oc (Qap V) (some ⟨b5,o5,none⟩) (wo.drewN dz) (hbc.drewN _) hrv.out (fun b off e=>Nat.ne_of_lt (hne.out b off e)) hqf1 (by rw[Qaq,HW.out];exact hqf2.out) (by rw[Qaq,HW.out];exact hqf3.out) (by omega) R hR;have HS:=hid hstp;have HR:=hid hR;clear hstp hR;refine HS.out.mono ?_;rintro e w5 ⟨l',rfl,hl1,hl2,hl3,hl4,hbl,hgr⟩;have HL:=hid (And.intro hl1 (And.intro hl3 hl4));clear hl1 hl3 hl4 HS;have hsz5:wo.heap.size<=w5.heap.size:=hgr.size;have hbq5:Blk w5 bq quo:=(hgr.block bq hbq4.lt (by intro e;cases e;omega)).trans hbq4;have hrv5:Hid (Row w5 (some ⟨b5,o5,none⟩) (Qac V)):=hid (fun hx=>by
          obtain⟨b6,o6,h1,h2,h3⟩:=hrv.out hx;refine⟨b6,o6,h1,axc h2 hsz5,fun j hj=>(Qip hgr h2 (Nat.ne_of_lt (hne.out _ _ h1))).trans (h3 j hj)⟩)
         have hB5:Below w.heap.size w w5:=(Qbs hB4 dz).grown hgr (by have:=hB4.size;simpa using this) (fun k e=>by cases e;exact hbuw.out);have cq:=hbq5.cell (i:=i) (by have:=hlq.out;omega);have fq:=hbq5.frozen i;have iR:(R:Int)%4294967296=(R:Int):=by omega
         clear hrv hb5 HC5 c5 c6 c7 c8 c9 hbc hbq4 hB4
         go_wp2_with fail
         obtain⟨hd1,hd2⟩:=Qku (V:=V) hVp.out (hsame.out i (by omega)) hmod.out hdiv.out (by have:=hlq.out;omega) (R:=R) (by rw[<-HR.out,Qaq,HW.out]);refine⟨⟨i,l',quo.set i R,by omega,rfl,hid (HL.out.1.trans hlc.out),hl2,hid (by have:=hlq.out;simpa using this),Qcv oq _ _ hR32,hid (fun t ht=>?_),hid ?_,hid hd2,hbl.set_ne (by omega) _ _,hbq5.set _ _,hid (Qiu hrv5.out (fun b off e=>by have:=hne.out b off e;omega) _ _),hB5.setCell (p:=⟨bq,i,none⟩) (by have:=hbuw.out;show w.heap.size<=bq;omega) _⟩,?_⟩
         .rw[HL.out.2.1 t (by omega)];exact hsame.out t (by omega)
         .rw[Qkv (cur:=cur) (m:=m) (by have:=hlc.out;omega) HL.out.1 HL.out.2.1 (Nat.lt_trans hXV.out (by have:=Qbr V;rwa[hnl.out] at this)),HL.out.2.2,Qaq,HW.out];exact hd1
         .simp[intOf]
       .have HX:=hid hexit;clear hexit;have hg:decide ((4294967296:Int)<=(q:Int))=true:=by simp;omega
        go_wp2_with fail
        go_quiet (fail)
        rw[World.drewN_drewN]
        by_cases hbig:(r:Int)+(y1:Int)<4294967296
        .have hb2:decide ((4294967296:Int)<=(r:Int)+(y1:Int))=false:=by simp;omega
         go_wp2_with fail
         obtain⟨hn1,hn2⟩:=HNX.out.1 HX.out;exact⟨⟨q-1,r+y1,by congr 1;omega,by congr 1,hid hn2,by omega,by omega,hid hn1,_,rfl⟩,by simp[intOf];omega⟩
        .have hb2:decide ((4294967296:Int)<=(r:Int)+(y1:Int))=true:=by simp;omega
         go_wp2_with fail
         rw[show i+m+1-i=m+1 by omega];obtain⟨qf,hqf⟩:∃ qf,qf=q-1:=⟨_,rfl⟩
         rw[show(q:Int)-1=(qf:Int) by omega];have hqb:=HNX.out.2.2 (by omega) (by omega);have hqf1:qf<4294967296:=by rw[hqf];exact hqb.1
         have hqf2:Hid (qf*V<=wat cur i+4294967296*wv (cur.drop (i+1))+V):=hid (by rw[hqf];exact hqb.2);have hqf3:Hid (wat cur i+4294967296*wv (cur.drop (i+1))<(qf+1)*V):=hid (by rw[<-Nat.div_lt_iff_lt_mul hVp.out,hqf];exact Nat.lt_succ_of_le (HNX.out.1 HX.out).1);obtain⟨dz,hdz⟩:∃ dz,dz=dd+nq:=⟨_,rfl⟩
         rw[<-hdz];clear hqf hdz hqb hb2;obtain⟨R,hR⟩:∃ R,wv ((cur.drop i).take (m+1))/wv (Qac V)=R:=⟨_,rfl⟩
         have hR32:R<4294967296:=by rw[<-hR,Qaq,HW.out];exact hdig.out
         have hstp:=Qti cur (Qac V) bu i (m+1) m qf (M+1-i) cv rfl hnl.out (by have:=hlc.out;omega) oc (Qap V) (some ⟨b5,o5,none⟩) (wo.drewN dz) (hbc.drewN _) hrv.out (fun b off e=>Nat.ne_of_lt (hne.out b off e)) hqf1 (by rw[Qaq,HW.out];exact hqf2.out) (by rw[Qaq,HW.out];exact hqf3.out) (by omega) R hR;have HS:=hid hstp;have HR:=hid hR;clear hstp hR;refine HS.out.mono ?_;rintro e w5 ⟨l',rfl,hl1,hl2,hl3,hl4,hbl,hgr⟩;have HL:=hid (And.intro hl1 (And.intro hl3 hl4));clear hl1 hl3 hl4 HS;have hsz5:wo.heap.size<=w5.heap.size:=hgr.size;have hbq5:Blk w5 bq quo:=(hgr.block bq hbq4.lt (by intro e;cases e;omega)).trans hbq4;have hrv5:Hid (Row w5 (some ⟨b5,o5,none⟩) (Qac V)):=hid (fun hx=>by
          obtain⟨b6,o6,h1,h2,h3⟩:=hrv.out hx;refine⟨b6,o6,h1,axc h2 hsz5,fun j hj=>(Qip hgr h2 (Nat.ne_of_lt (hne.out _ _ h1))).trans (h3 j hj)⟩)
         have hB5:Below w.heap.size w w5:=(Qbs hB4 dz).grown hgr (by have:=hB4.size;simpa using this) (fun k e=>by cases e;exact hbuw.out);have cq:=hbq5.cell (i:=i) (by have:=hlq.out;omega);have fq:=hbq5.frozen i;have iR:(R:Int)%4294967296=(R:Int):=by omega
         clear hrv hb5 HC5 c5 c6 c7 c8 c9 hbc hbq4 hB4
         go_wp2_with fail
         obtain⟨hd1,hd2⟩:=Qku (V:=V) hVp.out (hsame.out i (by omega)) hmod.out hdiv.out (by have:=hlq.out;omega) (R:=R) (by rw[<-HR.out,Qaq,HW.out]);refine⟨⟨i,l',quo.set i R,by omega,rfl,hid (HL.out.1.trans hlc.out),hl2,hid (by have:=hlq.out;simpa using this),Qcv oq _ _ hR32,hid (fun t ht=>?_),hid ?_,hid hd2,hbl.set_ne (by omega) _ _,hbq5.set _ _,hid (Qiu hrv5.out (fun b off e=>by have:=hne.out b off e;omega) _ _),hB5.setCell (p:=⟨bq,i,none⟩) (by have:=hbuw.out;show w.heap.size<=bq;omega) _⟩,?_⟩
         .rw[HL.out.2.1 t (by omega)];exact hsame.out t (by omega)
         .rw[Qkv (cur:=cur) (m:=m) (by have:=hlc.out;omega) HL.out.1 HL.out.2.1 (Nat.lt_trans hXV.out (by have:=Qbr V;rwa[hnl.out] at this)),HL.out.2.2,Qaq,HW.out];exact hd1
         .simp[intOf]
