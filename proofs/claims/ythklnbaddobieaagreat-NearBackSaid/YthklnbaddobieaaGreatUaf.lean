/- Laws for the walk. -/
import Derived.Test.YthklnbaddobieaaGreatUac
set_option linter.unusedVariables false
set_option maxHeartbeats 4000000
namespace Tr
theorem step_step{out la lv:List Nat}{k q c b d e t:Nat}(ho:k<out.length)(he:wat la k+4294967296*e=d+(t % 4294967296+b))(ht:t=c+q*wat lv k)(h:wv (out.take k)+q*wv (lv.take k)=wv (la.take k)+4294967296 ^ k*(c+b)) :
  wv ((out.set k d).take (k+1))+q*wv (lv.take (k+1))=wv (la.take (k+1))+4294967296 ^ (k+1)*(t / 4294967296+e):=by
 rw[wv_take_set ho,wv_take_wat,wv_take_wat,Nat.pow_succ]
 have h2:=Nat.mod_add_div t 4294967296
 have h3:d+t+b=wat la k+4294967296*(t / 4294967296+e):=by omega
 have h4:4294967296 ^ k*(d+t+b)=4294967296 ^ k*(wat la k+4294967296*(t / 4294967296+e)):=by rw[h3]
 have h5:q*(4294967296 ^ k*wat lv k)=4294967296 ^ k*(q*wat lv k):=Nat.mul_left_comm _ _ _
 rw[Nat.mul_add q,h5,Nat.mul_assoc]
 rw[Nat.mul_add,Nat.mul_add,ht,Nat.mul_add,Nat.mul_add] at h4
 rw[←ht] at h4
 rw[Nat.mul_add] at h
 omega
theorem drop_set_at(l:List Nat)(o k x:Nat):(l.set (o+k) x).drop o=(l.drop o).set k x:=by
 rw[List.drop_set,if_neg (by omega)]; congr 1; omega
theorem wat_drop(l:List Nat)(o k:Nat):wat (l.drop o) k=wat l (o+k):=by unfold wat; rw[List.getElem?_drop]
theorem step_fits{U V q W:Nat}(h:W+q*V=U)(h2:U<(q+1)*V):U / V=q∧U % V=W:=by
 have hV:0<V:=by
  rcases Nat.eq_zero_or_pos V with h0|h0
  ·subst h0; omega
  ·exact h0
 have h3:W<V:=by rw[Nat.add_mul] at h2; omega
 constructor
 ·rw[←h,Nat.add_mul_div_right _ _ hV,Nat.div_eq_of_lt h3,Nat.zero_add]
 ·rw[←h,Nat.add_mul_mod_self_right,Nat.mod_eq_of_lt h3]
theorem step_back{U V q W W2 c P:Nat}(hW2:W2<P)(h:W+q*V=U+P)(hb:W2+P*c=W+V)(h1:q*V≤U+V)(hWP:W<P)(hVP:V<P):0<q∧U / V=q - 1∧U % V=W2:=by
 have hq:0<q:=by
  rcases Nat.eq_zero_or_pos q with h0|h0
  ·subst h0; omega
  ·exact h0
 obtain⟨p,rfl⟩:∃ p,q=p+1:=⟨q - 1,by omega⟩
 rw[Nat.add_mul] at h h1
 have hc:c=1:=by
  rcases Nat.lt_trichotomy c 1 with h0|h0|h0
  ·have:c=0:=by omega
   subst this; omega
  ·exact h0
  ·have:P*2≤P*c:=Nat.mul_le_mul_left _ h0
   omega
 subst hc
 have h5:W2+p*V=U:=by omega
 have h6:W2<V:=by omega
 have:=step_fits h5 (by rw[Nat.add_mul]; omega)
 exact⟨hq,by simpa using this.1,this.2⟩
end Tr
namespace Go.Proofs.YthklnbaddobieaaGreat
open Go.RowKit Tr
theorem and_low(t:Nat)(h:t<18446744073709551616):bits BinOp.and .u64 (t:Int) 4294967295=((t % 4294967296:Nat):Int):=by
 have:=bits_and_u64_nat t 4294967295 h (by decide)
 rw[show(4294967295:Nat)=2 ^ 32 - 1 by decide,Nat.and_two_pow_sub_one_eq_mod] at this
 simpa using this
theorem grown_set{w w1:World}{B:Nat}(h:w.grownBy w1 (some B))(i:Nat)(v:Value):w.grownBy (w1.setCell ⟨B,i,none⟩ v) (some B):=by
 obtain⟨h1,h2,h3,h4,h5⟩:=h
 refine⟨h1,h2,h3,by simpa using h4,fun k hk hb=>?_⟩
 rw[←h5 k hk hb]
 simp only[World.setCell,Array.getElem?_modify]
 rw[if_neg (fun e=>hb (by rw[e]))]
theorem grown_cell{w w1:World}{B b i:Nat}(h:w.grownBy w1 (some B))(hb:b<w.heap.size)(hne:b≠B):w1.cell? ⟨b,i,none⟩=w.cell? ⟨b,i,none⟩ :=
 World.cell?_of_block (w:=w) (h.block b hb (fun e=>hne (by cases e; rfl)))
theorem step_word(x t b:Nat)(T:Int)(hT:T=(t:Int))(hx:x<4294967296)(ht:t<18446744073709551616)(hb:b≤1) :
  ∃ d e:Nat,d<4294967296∧e≤1∧x+4294967296*e=d+(t % 4294967296+b)∧IntKind.u64.wrap (IntKind.u64.wrap ((x:Int) - bits BinOp.and .u64 T 4294967295) - (b:Int)) % 4294967296=(d:Int)
   ∧ bits BinOp.and IntKind.u64 (IntKind.u64.wrap (IntKind.u64.wrap ((x:Int) - bits BinOp.and .u64 T 4294967295) - (b:Int)) / 4294967296) 1=(e:Int):=by
 obtain⟨d,e,h1,h2,h3,h4,h5⟩:=less_word x (t % 4294967296+b) hx (by omega)
 have hw:IntKind.u64.wrap (IntKind.u64.wrap ((x:Int) - bits BinOp.and .u64 T 4294967295) - (b:Int))=IntKind.u64.wrap ((x:Int) - ((t % 4294967296+b:Nat):Int)):=by
  rw[hT,and_low t ht,IntKind.wrap_u64,IntKind.wrap_u64,IntKind.wrap_u64]; omega
 exact⟨d,e,h1,h2,h3,by rw[hw]; exact h4,by rw[hw]; exact h5⟩
theorem step_walk(l lv:List Nat)(B o L n q cu cv:Nat)(hL:L=n+1)(hn:lv.length=n)(hlen:o+L≤l.length)(ol:WOk l)(ov:WOk lv)(pv:Option Addr)(w:World)(hB:Blk w B l)(hv:Row w pv lv)(hne:∀ b off,pv=some ⟨b,off,none⟩→b≠B)
  (hq:q<4294967296) (h1:q*wv lv≤wv ((l.drop o).take L)+wv lv) (h2:wv ((l.drop o).take L)<(q+1)*wv lv) (hL2:L<1099511627776) (R:Nat) (hR:wv ((l.drop o).take L) / wv lv=R) :
  Calls Tryz.prog 203 #[.slice (some ⟨B,o,none⟩) L cu,.slice pv n cv,.int .u64 q] w fun e w'=>∃ l',e=.returned (.int .u64 R)∧l'.length=l.length∧WOk l'∧(∀ j,j<o∨o+L≤j→l'[j]?=l[j]?)∧wv ((l'.drop o).take L)=wv ((l.drop o).take L) % wv lv∧Blk w' B l'∧w.grownBy w' (some B):=by
 have HA:=Lib.hid (And.intro hlen hn)
 have HV:=Lib.hid (And.intro hv hne)
 have HQ:=Lib.hid (And.intro h1 h2)
 have HN:=Lib.hid hL
 have HR:=Lib.hid hR
 have hnL:n<L:=by omega
 clear hlen hv hne h1 h2 hn hL hR
 go_enter Tryz.func203,Tryz.ntmps203
 go_wp2_with fail
 go_loopw [7,8,9,10,14] (fun c b _ _ i wr=>∃(k cr bo:Nat) (cur:List Nat),k≤L∧i=.int .i64 k∧c=.int .u64 cr∧b=.int .u64 bo∧cr<4294967296∧bo≤1∧(k≤n∨cr=0)∧Hid (cur.length=l.length)∧WOk cur∧Hid (∀ j,j<o∨o+k≤j→cur[j]?=l[j]?)∧Hid (wv ((cur.drop o).take k)+q*wv (lv.take k)=wv ((l.drop o).take k)+4294967296 ^ k*(cr+bo))∧Blk wr B cur∧w.grownBy wr (some B))
  (fun _ _ _ _ i _=>L - (intOf i).toNat)
 case atStart =>
  exact⟨0,0,0,l,Nat.zero_le _,rfl,rfl,rfl,by omega,by omega,.inl (Nat.zero_le _),Lib.hid rfl,ol,Lib.hid (fun _ _=>rfl),Lib.hid (by simp[wv]),hB,World.grownBy.refl _ _⟩
 case round =>
  obtain⟨k,cr,bo,cur,hk,rfl,rfl,rfl,hcr,hbo,hcz,hlo,oc,hsame,hinv,hblk,hG⟩:=hrel
  by_cases hlt2:k<L
  ·have c1:=hblk.cell (i:=o+k) (by have:=hlo.out; have:=HA.out; omega)
   have c2:=hblk.frozen (o+k)
   obtain⟨x,hx⟩:∃ x,x=cur[o+k]?.getD 0:=⟨_,rfl⟩
   have bx:x<4294967296:=by rw[hx]; exact wat_lt oc _
   rw[←hx] at c1
   have hxl:Hid (wat (l.drop o) k=x):=Lib.hid (by rw[wat_drop,hx,hsame.out (o+k) (by omega)]; rfl)
   have hbnd:o+k<cur.length:=by have:=hlo.out; have:=HA.out; omega
   have HX:=Lib.hid hbnd
   clear hx hbnd
   by_cases hkn:k<n
   ·obtain⟨b2,off2,rfl,hbs2,hcl2⟩:=HV.out.1 (by intro h; have:=HA.out.2; rw[h] at this; simp at this; omega)
    have c3:=(grown_cell (i:=off2+k) hG hbs2 (HV.out.2 _ _ rfl)).trans (hcl2 k (by have:=HA.out.2; omega))
    have by_:lv[k]?.getD 0<4294967296:=wat_lt ov k
    have hxy:=word_mul hq by_
    have hqy:q*lv[k]?.getD 0≤18446744065119617025:=by have:=hxy.1; rw[←Int.natCast_mul] at this; omega
    obtain⟨d,e,hd,he,hde,e1,e2⟩:=step_word x (cr+q*lv[k]?.getD 0) bo ((cr:Int)+(q:Int)*(lv[k]?.getD 0:Nat)) (by simp) bx (by omega) hbo
    have hst:=step_step (out:=cur.drop o) (la:=l.drop o) (lv:=lv) (k:=k) (q:=q) (c:=cr) (d:=d) (e:=e) (by simp; have:=HX.out; omega) (by rw[hxl.out]; exact hde) rfl hinv.out
    rw[←drop_set_at] at hst
    have e3:((cr:Int)+(q:Int)*(lv[k]?.getD 0:Nat)) / 4294967296=((cr+q*lv[k]?.getD 0) / 4294967296:Nat):=by simp
    have E:=Lib.hid (And.intro e1 (And.intro e2 e3))
    have HS:=Lib.hid hst
    have hcr':(cr+q*lv[k]?.getD 0) / 4294967296<4294967296:=by omega
    clear hcl2 hst hde e1 e2 e3 hqy
    go_wp2
    rw[E.out.1,E.out.2.1,E.out.2.2]
    refine⟨⟨k+1,_,e,cur.set (o+k) d,by omega,by go_num,rfl,rfl,hcr',he,.inl (by omega),Lib.hid (by have:=hlo.out; simpa using this),wok_set oc _ _ hd,Lib.hid (fun j hj=>?_),HS,hblk.set _ _,grown_set hG _ _⟩,?_⟩
    ·rw[List.getElem?_set_ne (by omega)]; exact hsame.out j (by omega)
    ·simp[intOf]; omega
   ·have hw0:wat lv k=0:=wat_out (by have:=HA.out; omega)
    obtain⟨d,e,hd,he,hde,e1,e2⟩:=step_word x cr bo (cr:Int) rfl bx (by omega) hbo
    have hst:=step_step (out:=cur.drop o) (la:=l.drop o) (lv:=lv) (k:=k) (q:=q) (c:=cr) (t:=cr) (d:=d) (e:=e) (by simp; have:=HX.out; omega) (by rw[hxl.out]; exact hde) (by rw[hw0]; omega) hinv.out
    rw[←drop_set_at] at hst
    have e3:((cr:Int)) / 4294967296=(cr / 4294967296:Nat):=by simp
    have E:=Lib.hid (And.intro e1 (And.intro e2 e3))
    have HS:=Lib.hid hst
    have hcr':cr / 4294967296<4294967296:=by omega
    clear hst hde e1 e2 e3 hw0
    go_wp2
    rw[E.out.1,E.out.2.1,E.out.2.2]
    refine⟨⟨k+1,_,e,cur.set (o+k) d,by omega,by go_num,rfl,rfl,hcr',he,.inr (by have:=HN.out; omega),Lib.hid (by have:=hlo.out; simpa using this),wok_set oc _ _ hd,Lib.hid (fun j hj=>?_),HS,hblk.set _ _,grown_set hG _ _⟩,?_⟩
    ·rw[List.getElem?_set_ne (by omega)]; exact hsame.out j (by omega)
    ·simp[intOf]; omega
  ·obtain rfl:L=k:=by omega
   obtain rfl:cr=0:=by have:=HN.out; omega
   have hend:=hinv.out
   rw[List.take_of_length_le (l:=lv) (by have:=HA.out; omega)] at hend
   have hWP:wv ((cur.drop o).take L)<4294967296 ^ L:=by
    have h3:=wv_lt (wok_take (wok_drop oc o) L)
    have h4:((cur.drop o).take L).length=L:=by simp; have:=hlo.out; have:=HA.out; omega
    rwa[h4] at h3
   by_cases hb0:bo=0
   ·subst hb0
    obtain⟨hr1,hr2⟩:=step_fits (by simpa using hend) HQ.out.2
    have HU:=Lib.hid (And.intro hr1 hr2)
    clear hend hr1 hr2 hWP
    go_wp2
    go_ret
    exact⟨ret_int (by have:=HU.out.1; have:=HR.out; omega),cur,hlo.out,oc,hsame.out,HU.out.2.symm,hblk,hG⟩
   ·obtain rfl:bo=1:=by omega
    have HE:=Lib.hid (And.intro hend hWP)
    clear hend hWP
    go_wp2_with fail
    obtain⟨w1,hw1⟩:∃ w1:World,w1=wr:=⟨_,rfl⟩
    rw[←hw1] at hblk hG ⊢
    clear hw1 wr
    go_loopw [7,11,56] (fun c _ i wr=>∃(k cr:Nat) (cur2:List Nat),k≤L∧i=.int .i64 k∧c=.int .u64 cr∧cr≤1∧Hid (cur2.length=l.length)∧WOk cur2∧Hid (∀ j,j<o∨o+k≤j→cur2[j]?=cur[j]?)∧Hid (wv ((cur2.drop o).take k)+4294967296 ^ k*cr=wv ((cur.drop o).take k)+wv (lv.take k))∧Blk wr B cur2∧w.grownBy wr (some B))
     (fun _ _ i _=>L - (intOf i).toNat)
    case atStart =>
     exact⟨0,0,cur,Nat.zero_le _,rfl,rfl,by omega,hlo,oc,Lib.hid (fun _ _=>rfl),Lib.hid (by simp[wv]),hblk,hG⟩
    case round =>
     obtain⟨k,cr,cur2,hk2,rfl,rfl,hcr2,hlo2,oc2,hsame2,hinv2,hblk2,hG2⟩:=hrel
     by_cases hlt3:k<L
     ·have c1:=hblk2.cell (i:=o+k) (by have:=hlo2.out; have:=HA.out; omega)
      have c2:=hblk2.frozen (o+k)
      obtain⟨x,hx⟩:∃ x,x=cur2[o+k]?.getD 0:=⟨_,rfl⟩
      have bx:x<4294967296:=by rw[hx]; exact wat_lt oc2 _
      rw[←hx] at c1
      have hxl:Hid (wat (cur.drop o) k=x):=Lib.hid (by rw[wat_drop,hx,hsame2.out (o+k) (by omega)]; rfl)
      have hst:=more_step (out:=cur2.drop o) (la:=cur.drop o) (lb:=lv) (i:=k) (c:=cr) (by simp; have:=hlo2.out; have:=HA.out; omega) hinv2.out
      rw[←drop_set_at,hxl.out] at hst
      clear hx
      by_cases hkn:k<n
      ·obtain⟨b2,off2,rfl,hbs2,hcl2⟩:=HV.out.1 (by intro h; have:=HA.out.2; rw[h] at this; simp at this; omega)
       have c3:=(grown_cell (i:=off2+k) hG2 hbs2 (HV.out.2 _ _ rfl)).trans (hcl2 k (by have:=HA.out.2; omega))
       have by_:lv[k]?.getD 0<4294967296:=wat_lt ov k
       have e1:((cr:Int)+(x:Int)+(lv[k]?.getD 0:Nat)) % 4294967296=((cr+x+wat lv k) % 4294967296:Nat):=by unfold wat; omega
       have e2:((cr:Int)+(x:Int)+(lv[k]?.getD 0:Nat)) / 4294967296=((cr+x+wat lv k) / 4294967296:Nat):=by unfold wat; omega
       have E:=Lib.hid (And.intro e1 e2)
       have HS:=Lib.hid hst
       have hcr':(cr+x+wat lv k) / 4294967296≤1:=by unfold wat; omega
       clear hcl2 hst e1 e2
       go_wp2
       rw[E.out.1,E.out.2]
       refine⟨⟨k+1,_,cur2.set (o+k) _,by omega,by go_num,rfl,hcr',Lib.hid (by have:=hlo2.out; simpa using this),wok_set oc2 _ _ (Nat.mod_lt _ (by decide)),Lib.hid (fun j hj=>?_),HS,hblk2.set _ _,grown_set hG2 _ _⟩,?_⟩
       ·rw[List.getElem?_set_ne (by omega)]; exact hsame2.out j (by omega)
       ·simp[intOf]; omega
      ·have hw0:wat lv k=0:=wat_out (by have:=HA.out; omega)
       have e1:((cr:Int)+(x:Int)) % 4294967296=((cr+x+wat lv k) % 4294967296:Nat):=by rw[hw0]; omega
       have e2:((cr:Int)+(x:Int)) / 4294967296=((cr+x+wat lv k) / 4294967296:Nat):=by rw[hw0]; omega
       have E:=Lib.hid (And.intro e1 e2)
       have HS:=Lib.hid hst
       have hcr':(cr+x+wat lv k) / 4294967296≤1:=by rw[hw0]; omega
       clear hst e1 e2 hw0
       go_wp2
       rw[E.out.1,E.out.2]
       refine⟨⟨k+1,_,cur2.set (o+k) _,by omega,by go_num,rfl,hcr',Lib.hid (by have:=hlo2.out; simpa using this),wok_set oc2 _ _ (Nat.mod_lt _ (by decide)),Lib.hid (fun j hj=>?_),HS,hblk2.set _ _,grown_set hG2 _ _⟩,?_⟩
       ·rw[List.getElem?_set_ne (by omega)]; exact hsame2.out j (by omega)
       ·simp[intOf]; omega
     ·obtain rfl:L=k:=by omega
      have h5:=hinv2.out
      rw[List.take_of_length_le (l:=lv) (by have:=HA.out; have:=HN.out; omega)] at h5
      have h6:wv ((cur2.drop o).take L)<4294967296 ^ L:=by
       have h3:=wv_lt (wok_take (wok_drop oc2 o) L)
       have h4:((cur2.drop o).take L).length=L:=by simp; have:=hlo2.out; have:=HA.out; omega
       rwa[h4] at h3
      have h7:wv lv<4294967296 ^ L:=by
       have h3:=wv_lt ov
       have h4:4294967296 ^ lv.length≤4294967296 ^ L:=Nat.pow_le_pow_right (by decide) (by have:=HA.out; omega)
       omega
      obtain⟨hq0,hr1,hr2⟩:=step_back h6 (by have:=HE.out.1; simpa using this) h5 HQ.out.1 HE.out.2 h7
      have HU:=Lib.hid (And.intro hr1 hr2)
      clear h5 h6 h7 hr1 hr2
      go_wp2
      go_ret
      refine⟨cur2,ret_int (by have:=HU.out.1; have:=HR.out; omega),hlo2.out,oc2,fun j hj=>?_,HU.out.2.symm,hblk2,hG2⟩
      rw[hsame2.out j hj,hsame.out j hj]
end Go.Proofs.YthklnbaddobieaaGreat
namespace Tr
theorem est_lt{U V x y:Nat}{P:Nat}(h:x*P≤V)(hU:U<y*P)(hle:V≤U):x<y:=by
 have:x*P<y*P:=by omega
 exact Nat.lt_of_mul_lt_mul_right this
theorem est_start{U V P top u2 ul v1 v2 vl:Nat}(hU:U=(top*4294967296+u2)*P+ul)(hul:ul<P)(hu2:u2<4294967296)(hV:V=(v1*4294967296+v2)*P+vl)(hv:0<v1):U / V≤top / v1:=by
 rw[Nat.le_div_iff_mul_le hv]
 have h1:U / V*V≤U:=Nat.div_mul_le_self _ _
 generalize U / V=Q at *
 have h2:(Q*v1*4294967296)*P≤Q*V:=by
  rw[Nat.mul_assoc,Nat.mul_assoc]
  apply Nat.mul_le_mul_left
  rw[hV,Nat.add_mul,Nat.mul_assoc]
  omega
 have h3:U<(top*4294967296+u2+1)*P:=by rw[hU,Nat.succ_mul]; omega
 have h4:=est_lt h2 h3 h1
 omega
theorem est_down{U V P top u2 ul v1 v2 vl q r Q:Nat}(hU:U=(top*4294967296+u2)*P+ul)(hul:ul<P)(hV:V=(v1*4294967296+v2)*P+vl)(hq:q*v1+r=top)(ht:r*4294967296+u2<q*v2)(hQ:Q*V≤U)(hle:Q≤q):Q<q:=by
 rcases Nat.lt_or_eq_of_le hle with h|h
 ·exact h
 ·exfalso
  subst h
  have h2:(Q*(v1*4294967296+v2))*P≤Q*V:=by
   rw[Nat.mul_assoc]; apply Nat.mul_le_mul_left; rw[hV]; omega
  have h3:U<(top*4294967296+u2+1)*P:=by rw[hU,Nat.succ_mul]; omega
  have h4:=est_lt h2 h3 hQ
  rw[Nat.mul_add,←Nat.mul_assoc] at h4
  omega
theorem est_end{U V P top u2 ul v1 v2 vl q r:Nat}(hU:U=(top*4294967296+u2)*P+ul)(hV:V=(v1*4294967296+v2)*P+vl)(hvl:vl<P)(hv:0<v1)(hq:q*v1+r=top)(ht:q*v2≤r*4294967296+u2)(hqB:q≤4294967296):q*V≤U+V:=by
 have h1:q*V=(q*(v1*4294967296+v2))*P+q*vl:=by rw[hV,Nat.mul_add,Nat.mul_assoc]
 have h2:q*(v1*4294967296+v2)≤top*4294967296+u2:=by
  rw[Nat.mul_add,←Nat.mul_assoc]; omega
 have h3:(q*(v1*4294967296+v2))*P≤(top*4294967296+u2)*P:=Nat.mul_le_mul_right _ h2
 have h4:q*vl≤4294967296*P:=Nat.mul_le_mul hqB (by omega)
 have h5:4294967296*P≤(v1*4294967296+v2)*P:=Nat.mul_le_mul_right _ (by omega)
 omega
theorem est_top{U V P top u2 ul v1 v2 vl:Nat}(hU:U=(top*4294967296+u2)*P+ul)(hV:V=(v1*4294967296+v2)*P+vl)(hvl:vl<P)(hv2:v2<4294967296)(hlt:U<4294967296*V):top<v1*4294967296+4294967296:=by
 have h1:4294967296*V<(v1*4294967296+v2+1)*4294967296*P:=by
  have:V<(v1*4294967296+v2+1)*P:=by rw[hV,Nat.succ_mul]; omega
  rw[Nat.mul_comm _ 4294967296,Nat.mul_assoc]
  omega
 have h2:(top*4294967296)*P≤U:=by rw[hU,Nat.add_mul]; omega
 have h3:top*4294967296<(v1*4294967296+v2+1)*4294967296:=Nat.lt_of_mul_lt_mul_right (Nat.lt_of_le_of_lt h2 (Nat.lt_trans hlt h1))
 omega
theorem two_top{l:List Nat}{n:Nat}(hn:l.length=n+2):wv l=(wat l (n+1)*4294967296+wat l n)*4294967296 ^ n+wv (l.take n):=by
 rw[wv_take_drop l n (by omega),wv_drop_wat,wv_drop_wat,List.drop_eq_nil_of_le (show l.length≤n+1+1 by omega)]
 simp only[wv,Nat.mul_zero,Nat.add_zero]
 have:wat l n+4294967296*wat l (n+1)=wat l (n+1)*4294967296+wat l n:=by omega
 rw[Nat.mul_comm (4294967296 ^ n),this]
 omega
theorem three_top{l:List Nat}{n:Nat}(hn:l.length=n+3):wv l=((wat l (n+2)*4294967296+wat l (n+1))*4294967296+wat l n)*4294967296 ^ n+wv (l.take n):=by
 rw[wv_take_drop l n (by omega),wv_drop_wat,wv_drop_wat,wv_drop_wat,List.drop_eq_nil_of_le (show l.length≤n+1+1+1 by omega)]
 simp only[wv,Nat.mul_zero,Nat.add_zero]
 rw[Nat.mul_comm (4294967296 ^ n)]
 have:wat l n+4294967296*(wat l (n+1)+4294967296*wat l (n+1+1))=(wat l (n+2)*4294967296+wat l (n+1))*4294967296+wat l n:=by
  show wat l n+4294967296*(wat l (n+1)+4294967296*wat l (n+2))=_
  omega
 rw[this]
 omega
theorem long_step{x X V A:Nat}(hV:0<V)(hX:X=A % V) :
  (x+4294967296*A) / V=(x+4294967296*X) / V+4294967296*(A / V)∧(x+4294967296*A) % V=(x+4294967296*X) % V:=by
 have h:=Nat.mod_add_div A V
 have e:x+4294967296*A=(x+4294967296*X)+V*(4294967296*(A / V)):=by
  rw[Nat.mul_left_comm,hX]
  omega
 rw[e,Nat.add_mul_div_left _ _ hV,Nat.add_mul_mod_self_left]
 exact⟨rfl,rfl⟩
theorem long_lt{x X V:Nat}(hx:x<4294967296)(hX:X<V):x+4294967296*X<4294967296*V:=by
 have:4294967296*(X+1)≤4294967296*V:=Nat.mul_le_mul_left _ hX
 omega
theorem window{cur:List Nat}{i m:Nat}(oc:WOk cur)(hi:i+m<cur.length)(h:wv (cur.drop (i+1))<4294967296 ^ m):wv ((cur.drop i).take (m+1))=wat cur i+4294967296*wv (cur.drop (i+1)):=by
 have h1:=wv_take_drop (cur.drop i) (m+1) (by simp; omega)
 rw[wv_drop_wat cur i] at h1
 have h2:=wat_lt oc i
 have h3:wat cur i+4294967296*wv (cur.drop (i+1))<4294967296 ^ (m+1):=by
  rw[Nat.pow_succ]
  have:4294967296*(wv (cur.drop (i+1))+1)≤4294967296*4294967296 ^ m:=Nat.mul_le_mul_left _ h
  rw[Nat.mul_comm (4294967296 ^ m)]
  omega
 have h4:wv ((cur.drop i).drop (m+1))=0:=by
  rcases Nat.eq_zero_or_pos (wv ((cur.drop i).drop (m+1))) with h0|h0
  ·exact h0
  ·have:4294967296 ^ (m+1)*1≤4294967296 ^ (m+1)*wv ((cur.drop i).drop (m+1)):=Nat.mul_le_mul_left _ h0
   omega
 rw[h4] at h1
 omega
theorem window_top{cur:List Nat}{i m:Nat}(hm:2≤m)(oc:WOk cur)(hi:i+m<cur.length):∃ ul,ul<4294967296 ^ (m - 2)∧wv ((cur.drop i).take (m+1))=((wat cur (i+m)*4294967296+wat cur (i+m - 1))*4294967296+wat cur (i+m - 2))*4294967296 ^ (m - 2)+ul:=by
 have hl:((cur.drop i).take (m+1)).length=m - 2+3:=by simp; omega
 have h1:=three_top hl
 have e:∀ j,j<m+1→wat ((cur.drop i).take (m+1)) j=wat cur (i+j):=fun j hj=>by
  unfold wat; rw[List.getElem?_take_of_lt hj,List.getElem?_drop]
 rw[e _ (by omega),e _ (by omega),e _ (by omega),show i+(m - 2+2)=i+m by omega,show i+(m - 2+1)=i+m - 1 by omega,show i+(m - 2)=i+m - 2 by omega] at h1
 refine⟨_,?_,h1⟩
 have h2:=wv_lt (wok_take (wok_take (wok_drop oc i) (m+1)) (m - 2))
 have h3:(((cur.drop i).take (m+1)).take (m - 2)).length=m - 2:=by rw[List.length_take,hl]; omega
 rwa[h3] at h2
theorem divisor_top{V m:Nat}(hm:2≤m)(hl:(words V).length=m):∃ vl,vl<4294967296 ^ (m - 2)∧V=(wat (words V) (m - 1)*4294967296+wat (words V) (m - 2))*4294967296 ^ (m - 2)+vl:=by
 have h1:=two_top (l:=words V) (n:=m - 2) (by omega)
 rw[wv_words,show m - 2+1=m - 1 by omega] at h1
 refine⟨_,?_,h1⟩
 have h2:=wv_lt (wok_take (wok_words V) (m - 2))
 have h3:((words V).take (m - 2)).length=m - 2:=by rw[List.length_take,hl]; omega
 rwa[h3] at h2
theorem guess_next{W V x1 x2 x3 y1 y2 q r P:Nat}(hW:∃ ul,ul<P∧W=((x1*4294967296+x2)*4294967296+x3)*P+ul)(hV:∃ vl,vl<P∧V=(y1*4294967296+y2)*P+vl)(hqr:q*y1+r=x1*4294967296+x2)(hQ:W / V≤q)(hd:W / V<4294967296)(h:¬(q<4294967296∧¬r*4294967296+x3<q*y2)):W / V≤q - 1∧(q - 1)*y1+(r+y1)=x1*4294967296+x2:=by
 obtain⟨ul,hul,hW⟩:=hW
 obtain⟨vl,hvl,hV⟩:=hV
 have hlt:W / V<q:=by
  by_cases hq:q<4294967296
  ·refine est_down hW hul hV hqr ?_ (Nat.div_mul_le_self _ _) hQ
   rcases Nat.lt_or_ge (r*4294967296+x3) (q*y2) with h1|h1
   ·exact h1
   ·exact absurd ⟨hq,Nat.not_lt.2 h1⟩ h
  ·omega
 refine⟨by omega,?_⟩
 have hq0:0<q:=Nat.lt_of_le_of_lt (Nat.zero_le _) hlt
 obtain⟨p,rfl⟩:∃ p,q=p+1:=⟨q - 1,by omega⟩
 rw[Nat.add_mul] at hqr
 simp only[Nat.add_sub_cancel]
 omega
theorem guess_end{W V x1 x2 x3 y1 y2 q r P:Nat}(hW:∃ ul,ul<P∧W=((x1*4294967296+x2)*4294967296+x3)*P+ul)(hV:∃ vl,vl<P∧V=(y1*4294967296+y2)*P+vl)(hy1:0<y1)(hy2:y2<4294967296)(hqr:q*y1+r=x1*4294967296+x2)(hUV:W<4294967296*V) :
  (q<4294967296→¬r*4294967296+x3<q*y2→q*V≤W+V)∧(1≤q→4294967296≤r+y1→q - 1<4294967296∧(q - 1)*V≤W+V):=by
 obtain⟨ul,hul,hW⟩:=hW
 obtain⟨vl,hvl,hV⟩:=hV
 constructor
 ·intro h1 h2
  exact est_end hW hV hvl hy1 hqr (by omega) (by omega)
 ·intro h1 h2
  obtain⟨p,rfl⟩:∃ p,q=p+1:=⟨q - 1,by omega⟩
  have htop:=est_top hW hV hvl hy2 hUV
  rw[Nat.add_mul] at hqr
  have hp:p<4294967296:=by
   have:p*y1<4294967296*y1:=by rw[Nat.mul_comm 4294967296]; omega
   exact Nat.lt_of_mul_lt_mul_right this
  simp only[Nat.add_sub_cancel]
  refine⟨hp,est_end (r:=r+y1) hW hV hvl hy1 (by omega) ?_ (by omega)⟩
  have h3:p*y2≤4294967296*4294967296:=Nat.mul_le_mul (by omega) (by omega)
  have h4:4294967296*4294967296≤(r+y1)*4294967296:=Nat.mul_le_mul_right _ h2
  omega
theorem long_round{cur l':List Nat}{i m:Nat}(hi:i+m<cur.length)(hlen:l'.length=cur.length)(hsame:∀ j,j<i∨i+(m+1)≤j→l'[j]?=cur[j]?)(hX:wv (cur.drop (i+1))<4294967296 ^ m):wv (l'.drop i)=wv ((l'.drop i).take (m+1)):=by
 have h1:=wv_take_drop (l'.drop i) (m+1) (by simp; omega)
 have h2:(l'.drop i).drop (m+1)=cur.drop (i+(m+1)):=by
  apply List.ext_getElem?
  intro j
  rw[List.drop_drop,List.getElem?_drop,List.getElem?_drop,hsame _ (by omega)]
 have h3:=wv_take_drop (cur.drop (i+1)) m (by simp; omega)
 rw[List.drop_drop,show i+1+m=i+(m+1) by omega] at h3
 have h4:wv (cur.drop (i+(m+1)))=0:=by
  rcases Nat.eq_zero_or_pos (wv (cur.drop (i+(m+1)))) with h0|h0
  ·exact h0
  ·have:4294967296 ^ m*1≤4294967296 ^ m*wv (cur.drop (i+(m+1))):=Nat.mul_le_mul_left _ h0
   omega
 rw[h2,h4,Nat.mul_zero,Nat.add_zero] at h1
 exact h1
theorem long_digit{cur u0 quo:List Nat}{i R V:Nat}(hV:0<V)(hs:cur[i]?=u0[i]?)(hmod:wv (cur.drop (i+1))=wv (u0.drop (i+1)) % V)(hdiv:wv (quo.drop (i+1))=wv (u0.drop (i+1)) / V)(hq:i<quo.length)(hR:(wat cur i+4294967296*wv (cur.drop (i+1))) / V=R) :
  (wat cur i+4294967296*wv (cur.drop (i+1))) % V=wv (u0.drop i) % V∧wv ((quo.set i R).drop i)=wv (u0.drop i) / V:=by
 have h1:=long_step (x:=wat cur i) hV hmod
 have h2:wat u0 i=wat cur i:=by unfold wat; rw[hs]
 have h3:=wv_drop_wat u0 i
 rw[h2] at h3
 have h4:=wv_drop_wat (quo.set i R) i
 have h6:(quo.set i R).drop (i+1)=quo.drop (i+1):=List.drop_set_of_lt (by omega)
 rw[h6,hdiv] at h4
 have h5:wat (quo.set i R) i=R:=by unfold wat; rw[List.getElem?_set_self hq]; rfl
 rw[h3,h4,h5,h1.1,h1.2,hR]
 exact⟨rfl,rfl⟩
end Tr
