/- Laws for the walk. -/
import Derived.Test.YtgjkifdilflcbaaGreatZak
set_option linter.unusedVariables false
set_option maxHeartbeats 4000000
namespace Tr
theorem est_lt{U V x y:Nat}{P:Nat}(h:x*P≤V)(hU:U<y*P)(hle:V≤U):x<y:=by
 have:x*P<y*P:=by omega
 exact Nat.lt_of_mul_lt_mul_right this
theorem est_start{U V P top u2 ul v1 v2 vl:Nat}(hU:U=(top*4294967296+u2)*P+ul)(hul:ul<P)(hu2:u2<4294967296)(hV:V=(v1*4294967296+v2)*P+vl)(hv:0<v1):U / V≤top / v1:=by
 rw[Nat.le_div_iff_mul_le hv]
 have h1:U / V*V≤U:=Nat.div_mul_le_self _ _
 generalize U / V=Q at *
 have h2:(Q*v1*4294967296)*P≤Q*V:=by
  rw[Nat.mul_assoc,Nat.mul_assoc]
  apply Nat.mul_le_mul_left
  rw[hV,Nat.add_mul,Nat.mul_assoc]
  omega
 have h3:U<(top*4294967296+u2+1)*P:=by rw[hU,Nat.succ_mul]; omega
 have h4:=est_lt h2 h3 h1
 omega
theorem est_down{U V P top u2 ul v1 v2 vl q r Q:Nat}(hU:U=(top*4294967296+u2)*P+ul)(hul:ul<P)(hV:V=(v1*4294967296+v2)*P+vl)(hq:q*v1+r=top)(ht:r*4294967296+u2<q*v2)(hQ:Q*V≤U)(hle:Q≤q):Q<q:=by
 rcases Nat.lt_or_eq_of_le hle with h|h
 ·exact h
 ·exfalso
  subst h
  have h2:(Q*(v1*4294967296+v2))*P≤Q*V:=by
   rw[Nat.mul_assoc]; apply Nat.mul_le_mul_left; rw[hV]; omega
  have h3:U<(top*4294967296+u2+1)*P:=by rw[hU,Nat.succ_mul]; omega
  have h4:=est_lt h2 h3 hQ
  rw[Nat.mul_add,←Nat.mul_assoc] at h4
  omega
theorem est_end{U V P top u2 ul v1 v2 vl q r:Nat}(hU:U=(top*4294967296+u2)*P+ul)(hV:V=(v1*4294967296+v2)*P+vl)(hvl:vl<P)(hv:0<v1)(hq:q*v1+r=top)(ht:q*v2≤r*4294967296+u2)(hqB:q≤4294967296):q*V≤U+V:=by
 have h1:q*V=(q*(v1*4294967296+v2))*P+q*vl:=by rw[hV,Nat.mul_add,Nat.mul_assoc]
 have h2:q*(v1*4294967296+v2)≤top*4294967296+u2:=by
  rw[Nat.mul_add,←Nat.mul_assoc]; omega
 have h3:(q*(v1*4294967296+v2))*P≤(top*4294967296+u2)*P:=Nat.mul_le_mul_right _ h2
 have h4:q*vl≤4294967296*P:=Nat.mul_le_mul hqB (by omega)
 have h5:4294967296*P≤(v1*4294967296+v2)*P:=Nat.mul_le_mul_right _ (by omega)
 omega
theorem est_top{U V P top u2 ul v1 v2 vl:Nat}(hU:U=(top*4294967296+u2)*P+ul)(hV:V=(v1*4294967296+v2)*P+vl)(hvl:vl<P)(hv2:v2<4294967296)(hlt:U<4294967296*V):top<v1*4294967296+4294967296:=by
 have h1:4294967296*V<(v1*4294967296+v2+1)*4294967296*P:=by
  have:V<(v1*4294967296+v2+1)*P:=by rw[hV,Nat.succ_mul]; omega
  rw[Nat.mul_comm _ 4294967296,Nat.mul_assoc]
  omega
 have h2:(top*4294967296)*P≤U:=by rw[hU,Nat.add_mul]; omega
 have h3:top*4294967296<(v1*4294967296+v2+1)*4294967296:=Nat.lt_of_mul_lt_mul_right (Nat.lt_of_le_of_lt h2 (Nat.lt_trans hlt h1))
 omega
theorem two_top{l:List Nat}{n:Nat}(hn:l.length=n+2):wv l=(wat l (n+1)*4294967296+wat l n)*4294967296 ^ n+wv (l.take n):=by
 rw[wv_take_drop l n (by omega),wv_drop_wat,wv_drop_wat,List.drop_eq_nil_of_le (show l.length≤n+1+1 by omega)]
 simp only[wv,Nat.mul_zero,Nat.add_zero]
 have:wat l n+4294967296*wat l (n+1)=wat l (n+1)*4294967296+wat l n:=by omega
 rw[Nat.mul_comm (4294967296 ^ n),this]
 omega
theorem three_top{l:List Nat}{n:Nat}(hn:l.length=n+3):wv l=((wat l (n+2)*4294967296+wat l (n+1))*4294967296+wat l n)*4294967296 ^ n+wv (l.take n):=by
 rw[wv_take_drop l n (by omega),wv_drop_wat,wv_drop_wat,wv_drop_wat,List.drop_eq_nil_of_le (show l.length≤n+1+1+1 by omega)]
 simp only[wv,Nat.mul_zero,Nat.add_zero]
 rw[Nat.mul_comm (4294967296 ^ n)]
 have:wat l n+4294967296*(wat l (n+1)+4294967296*wat l (n+1+1))=(wat l (n+2)*4294967296+wat l (n+1))*4294967296+wat l n:=by
  show wat l n+4294967296*(wat l (n+1)+4294967296*wat l (n+2))=_
  omega
 rw[this]
 omega
theorem long_step{x X V A:Nat}(hV:0<V)(hX:X=A % V) :
  (x+4294967296*A) / V=(x+4294967296*X) / V+4294967296*(A / V)∧(x+4294967296*A) % V=(x+4294967296*X) % V:=by
 have h:=Nat.mod_add_div A V
 have e:x+4294967296*A=(x+4294967296*X)+V*(4294967296*(A / V)):=by
  rw[Nat.mul_left_comm,hX]
  omega
 rw[e,Nat.add_mul_div_left _ _ hV,Nat.add_mul_mod_self_left]
 exact⟨rfl,rfl⟩
theorem long_lt{x X V:Nat}(hx:x<4294967296)(hX:X<V):x+4294967296*X<4294967296*V:=by
 have:4294967296*(X+1)≤4294967296*V:=Nat.mul_le_mul_left _ hX
 omega
theorem window{cur:List Nat}{i m:Nat}(oc:WOk cur)(hi:i+m<cur.length)(h:wv (cur.drop (i+1))<4294967296 ^ m):wv ((cur.drop i).take (m+1))=wat cur i+4294967296*wv (cur.drop (i+1)):=by
 have h1:=wv_take_drop (cur.drop i) (m+1) (by simp; omega)
 rw[wv_drop_wat cur i] at h1
 have h2:=wat_lt oc i
 have h3:wat cur i+4294967296*wv (cur.drop (i+1))<4294967296 ^ (m+1):=by
  rw[Nat.pow_succ]
  have:4294967296*(wv (cur.drop (i+1))+1)≤4294967296*4294967296 ^ m:=Nat.mul_le_mul_left _ h
  rw[Nat.mul_comm (4294967296 ^ m)]
  omega
 have h4:wv ((cur.drop i).drop (m+1))=0:=by
  rcases Nat.eq_zero_or_pos (wv ((cur.drop i).drop (m+1))) with h0|h0
  ·exact h0
  ·have:4294967296 ^ (m+1)*1≤4294967296 ^ (m+1)*wv ((cur.drop i).drop (m+1)):=Nat.mul_le_mul_left _ h0
   omega
 rw[h4] at h1
 omega
theorem window_top{cur:List Nat}{i m:Nat}(hm:2≤m)(oc:WOk cur)(hi:i+m<cur.length):∃ ul,ul<4294967296 ^ (m - 2)∧wv ((cur.drop i).take (m+1))=((wat cur (i+m)*4294967296+wat cur (i+m - 1))*4294967296+wat cur (i+m - 2))*4294967296 ^ (m - 2)+ul:=by
 have hl:((cur.drop i).take (m+1)).length=m - 2+3:=by simp; omega
 have h1:=three_top hl
 have e:∀ j,j<m+1→wat ((cur.drop i).take (m+1)) j=wat cur (i+j):=fun j hj=>by
  unfold wat; rw[List.getElem?_take_of_lt hj,List.getElem?_drop]
 rw[e _ (by omega),e _ (by omega),e _ (by omega),show i+(m - 2+2)=i+m by omega,show i+(m - 2+1)=i+m - 1 by omega,show i+(m - 2)=i+m - 2 by omega] at h1
 refine⟨_,?_,h1⟩
 have h2:=wv_lt (wok_take (wok_take (wok_drop oc i) (m+1)) (m - 2))
 have h3:(((cur.drop i).take (m+1)).take (m - 2)).length=m - 2:=by rw[List.length_take,hl]; omega
 rwa[h3] at h2
theorem divisor_top{V m:Nat}(hm:2≤m)(hl:(words V).length=m):∃ vl,vl<4294967296 ^ (m - 2)∧V=(wat (words V) (m - 1)*4294967296+wat (words V) (m - 2))*4294967296 ^ (m - 2)+vl:=by
 have h1:=two_top (l:=words V) (n:=m - 2) (by omega)
 rw[wv_words,show m - 2+1=m - 1 by omega] at h1
 refine⟨_,?_,h1⟩
 have h2:=wv_lt (wok_take (wok_words V) (m - 2))
 have h3:((words V).take (m - 2)).length=m - 2:=by rw[List.length_take,hl]; omega
 rwa[h3] at h2
theorem guess_next{W V x1 x2 x3 y1 y2 q r P:Nat}(hW:∃ ul,ul<P∧W=((x1*4294967296+x2)*4294967296+x3)*P+ul)(hV:∃ vl,vl<P∧V=(y1*4294967296+y2)*P+vl)(hqr:q*y1+r=x1*4294967296+x2)(hQ:W / V≤q)(hd:W / V<4294967296)(h:¬(q<4294967296∧¬r*4294967296+x3<q*y2)):W / V≤q - 1∧(q - 1)*y1+(r+y1)=x1*4294967296+x2:=by
 obtain⟨ul,hul,hW⟩:=hW
 obtain⟨vl,hvl,hV⟩:=hV
 have hlt:W / V<q:=by
  by_cases hq:q<4294967296
  ·refine est_down hW hul hV hqr ?_ (Nat.div_mul_le_self _ _) hQ
   rcases Nat.lt_or_ge (r*4294967296+x3) (q*y2) with h1|h1
   ·exact h1
   ·exact absurd ⟨hq,Nat.not_lt.2 h1⟩ h
  ·omega
 refine⟨by omega,?_⟩
 have hq0:0<q:=Nat.lt_of_le_of_lt (Nat.zero_le _) hlt
 obtain⟨p,rfl⟩:∃ p,q=p+1:=⟨q - 1,by omega⟩
 rw[Nat.add_mul] at hqr
 simp only[Nat.add_sub_cancel]
 omega
theorem guess_end{W V x1 x2 x3 y1 y2 q r P:Nat}(hW:∃ ul,ul<P∧W=((x1*4294967296+x2)*4294967296+x3)*P+ul)(hV:∃ vl,vl<P∧V=(y1*4294967296+y2)*P+vl)(hy1:0<y1)(hy2:y2<4294967296)(hqr:q*y1+r=x1*4294967296+x2)(hUV:W<4294967296*V) :
  (q<4294967296→¬r*4294967296+x3<q*y2→q*V≤W+V)∧(1≤q→4294967296≤r+y1→q - 1<4294967296∧(q - 1)*V≤W+V):=by
 obtain⟨ul,hul,hW⟩:=hW
 obtain⟨vl,hvl,hV⟩:=hV
 constructor
 ·intro h1 h2
  exact est_end hW hV hvl hy1 hqr (by omega) (by omega)
 ·intro h1 h2
  obtain⟨p,rfl⟩:∃ p,q=p+1:=⟨q - 1,by omega⟩
  have htop:=est_top hW hV hvl hy2 hUV
  rw[Nat.add_mul] at hqr
  have hp:p<4294967296:=by
   have:p*y1<4294967296*y1:=by rw[Nat.mul_comm 4294967296]; omega
   exact Nat.lt_of_mul_lt_mul_right this
  simp only[Nat.add_sub_cancel]
  refine⟨hp,est_end (r:=r+y1) hW hV hvl hy1 (by omega) ?_ (by omega)⟩
  have h3:p*y2≤4294967296*4294967296:=Nat.mul_le_mul (by omega) (by omega)
  have h4:4294967296*4294967296≤(r+y1)*4294967296:=Nat.mul_le_mul_right _ h2
  omega
theorem long_round{cur l':List Nat}{i m:Nat}(hi:i+m<cur.length)(hlen:l'.length=cur.length)(hsame:∀ j,j<i∨i+(m+1)≤j→l'[j]?=cur[j]?)(hX:wv (cur.drop (i+1))<4294967296 ^ m):wv (l'.drop i)=wv ((l'.drop i).take (m+1)):=by
 have h1:=wv_take_drop (l'.drop i) (m+1) (by simp; omega)
 have h2:(l'.drop i).drop (m+1)=cur.drop (i+(m+1)):=by
  apply List.ext_getElem?
  intro j
  rw[List.drop_drop,List.getElem?_drop,List.getElem?_drop,hsame _ (by omega)]
 have h3:=wv_take_drop (cur.drop (i+1)) m (by simp; omega)
 rw[List.drop_drop,show i+1+m=i+(m+1) by omega] at h3
 have h4:wv (cur.drop (i+(m+1)))=0:=by
  rcases Nat.eq_zero_or_pos (wv (cur.drop (i+(m+1)))) with h0|h0
  ·exact h0
  ·have:4294967296 ^ m*1≤4294967296 ^ m*wv (cur.drop (i+(m+1))):=Nat.mul_le_mul_left _ h0
   omega
 rw[h2,h4,Nat.mul_zero,Nat.add_zero] at h1
 exact h1
theorem long_digit{cur u0 quo:List Nat}{i R V:Nat}(hV:0<V)(hs:cur[i]?=u0[i]?)(hmod:wv (cur.drop (i+1))=wv (u0.drop (i+1)) % V)(hdiv:wv (quo.drop (i+1))=wv (u0.drop (i+1)) / V)(hq:i<quo.length)(hR:(wat cur i+4294967296*wv (cur.drop (i+1))) / V=R) :
  (wat cur i+4294967296*wv (cur.drop (i+1))) % V=wv (u0.drop i) % V∧wv ((quo.set i R).drop i)=wv (u0.drop i) / V:=by
 have h1:=long_step (x:=wat cur i) hV hmod
 have h2:wat u0 i=wat cur i:=by unfold wat; rw[hs]
 have h3:=wv_drop_wat u0 i
 rw[h2] at h3
 have h4:=wv_drop_wat (quo.set i R) i
 have h6:(quo.set i R).drop (i+1)=quo.drop (i+1):=List.drop_set_of_lt (by omega)
 rw[h6,hdiv] at h4
 have h5:wat (quo.set i R) i=R:=by unfold wat; rw[List.getElem?_set_self hq]; rfl
 rw[h3,h4,h5,h1.1,h1.2,hR]
 exact⟨rfl,rfl⟩
end Tr
