/- Laws for the walk. -/
import Derived.Test.YthklnbaddobieaaGreatVaa
import Ieee.Arith
import Derived.Laws.FloatArith
set_option linter.unusedVariables false
set_option maxHeartbeats 4000000
namespace Tr
open Ieee
def DV(d:Datum)(v:Int):Prop:=∃ s m e,d=.number s m e∧-1074≤e∧signed s m (e+1074).toNat=v
def UU:Nat:=1074
theorem UU_eq:UU=1074:=rfl
def Exu(x:Nat)(v:Int):Prop:=DV (double.read x) v
def Rp(n:Nat):Prop:=∃ k t,n=k*2 ^ t∧k<2 ^ 53∧t≤2045
theorem natAbs_two_pow(k:Nat):((2:Int) ^ k).natAbs=2 ^ k:=by rw[Int.natAbs_pow]; rfl
theorem signed_eq(s:Bool)(m u:Nat):signed s m u=if s then -((m*2 ^ u:Nat):Int) else((m*2 ^ u:Nat):Int):=by
 unfold signed; simp[Nat.shiftLeft_eq]
theorem signed_natAbs(s:Bool)(m u:Nat):(signed s m u).natAbs=m*2 ^ u:=by
 rw[signed_eq]; cases s<;>simp[Int.natAbs_mul,Int.natAbs_pow]
theorem signed_scale(s:Bool)(m u v:Nat):signed s m u*(2:Int) ^ v=signed s m (u+v):=by
 rw[signed_eq,signed_eq,Nat.pow_add,←Nat.mul_assoc]
 cases s<;>simp[Int.natCast_mul,Int.natCast_pow,Int.neg_mul]
theorem sw:double.signWeight=9223372036854775808:=rfl
theorem bn:double.binade=4503599627370496:=rfl
theorem ir:double.infRung=9218868437227405312:=rfl
theorem lp:double.leastPlace=-1074:=rfl
theorem read_word(s:Bool)(L kept:Nat)(hk:kept<9007199254740992)(hL:L≤2045)(h:L=0∨4503599627370496≤kept) :
  ∃ m e,double.read (double.word s (L*4503599627370496+kept))=.number s m e∧-1074≤e∧m*2 ^ (e+1074).toNat=kept*2 ^ L:=by
 have hr:L*4503599627370496+kept<9218868437227405312:=by omega
 have h1:double.word s (L*4503599627370496+kept) % 9223372036854775808=L*4503599627370496+kept:=by
  unfold Format.word; rw[sw]; cases s<;>simp<;>omega
 have h2:(double.word s (L*4503599627370496+kept) / 9223372036854775808 % 2 == 1)=s:=by
  unfold Format.word; rw[sw]
  cases s
  ·simp; omega
  ·simp; omega
 unfold Format.read
 simp only[sw,bn,ir,lp,h1,h2]
 by_cases hb:L*4503599627370496+kept<4503599627370496
 ·rw[if_pos hb]
  have hL0:L=0:=by omega
  subst hL0
  exact⟨_,_,rfl,by omega,by simp⟩
 ·rw[if_neg hb,if_pos hr]
  refine⟨_,_,rfl,by omega,?_⟩
  rcases h with h0|h0
  ·subst h0
   have e1:(0*4503599627370496+kept) / 4503599627370496=1:=by omega
   have e2:4503599627370496+(0*4503599627370496+kept) % 4503599627370496=kept:=by omega
   rw[e1,e2]; simp
  ·have e1:(L*4503599627370496+kept) / 4503599627370496=L+1:=by omega
   have e2:4503599627370496+(L*4503599627370496+kept) % 4503599627370496=kept:=by omega
   rw[e1,e2]
   have:(-1074+((L+1 - 1:Nat):Int)+1074).toNat=L:=by omega
   rw[this]
theorem cut_exact(neg:Bool)(kept drop:Nat)(hk:0<kept):Toward.even.cut neg (kept*2 ^ drop) drop=kept:=by
 have hp:0<2 ^ drop:=Nat.two_pow_pos _
 have hne:kept*2 ^ drop≠0:=Nat.ne_of_gt (Nat.mul_pos hk hp)
 have hl:drop≤(kept*2 ^ drop).log2:=by
  rw[Nat.le_log2 hne]
  exact Nat.le_mul_of_pos_left _ hk
 unfold Toward.cut
 simp only[Nat.min_eq_left (show drop≤(kept*2 ^ drop).log2+2 by omega),Nat.one_shiftLeft,Nat.mul_div_cancel _ hp,Nat.mul_mod_left]
 have h1:(2 ^ drop == 2*0)=false:=by
  rw[beq_eq_false_iff_ne]; omega
 have h2:decide (2 ^ drop<2*0)=false:=by simp
 rw[h1,h2]; rfl
theorem nearest_exact(s:Bool)(mag:Nat)(place:Int)(N:Nat)(hm:0<mag)
  (hN:mag*2 ^ (place+1074).toNat=N*2 ^ (-1074 - place).toNat) (hR:Rp N) :
  ∃ m e,double.read (double.nearest s mag place)=.number s m e∧-1074≤e∧m*2 ^ (e+1074).toNat=N:=by
 obtain⟨k,t,hNk,hk,ht⟩:=hR
 have hNpos:0<N:=by
  rcases Nat.eq_zero_or_pos N with h|h
  ·subst h
   have:=Nat.mul_pos hm (Nat.two_pow_pos (place+1074).toNat)
   omega
  ·exact h
 -- the logarithms
 have hl1:2 ^ mag.log2≤mag:=Nat.log2_self_le (by omega)
 have hl2:mag<2 ^ (mag.log2+1):=Nat.lt_log2_self
 have hg1:2 ^ N.log2≤N:=Nat.log2_self_le (by omega)
 have hg2:N<2 ^ (N.log2+1):=Nat.lt_log2_self
 have hlog:(N.log2:Int)=place+mag.log2+1074:=by
  have a1:2 ^ (mag.log2+(place+1074).toNat)<2 ^ (N.log2+1+(-1074 - place).toNat):=by
   rw[Nat.pow_add,Nat.pow_add]
   calc 2 ^ mag.log2*2 ^ (place+1074).toNat≤mag*2 ^ (place+1074).toNat:=Nat.mul_le_mul_right _ hl1
    _=N*2 ^ (-1074 - place).toNat:=hN
    _<_:=Nat.mul_lt_mul_of_pos_right hg2 (Nat.two_pow_pos _)
  have a2:2 ^ (N.log2+(-1074 - place).toNat)<2 ^ (mag.log2+1+(place+1074).toNat):=by
   rw[Nat.pow_add,Nat.pow_add]
   calc 2 ^ N.log2*2 ^ (-1074 - place).toNat≤N*2 ^ (-1074 - place).toNat:=Nat.mul_le_mul_right _ hg1
    _=mag*2 ^ (place+1074).toNat:=hN.symm
    _<_:=Nat.mul_lt_mul_of_pos_right hl2 (Nat.two_pow_pos _)
  have b1:=(Nat.pow_lt_pow_iff_right (by decide:1<2)).1 a1
  have b2:=(Nat.pow_lt_pow_iff_right (by decide:1<2)).1 a2
  omega
 -- the place of the last digit
 obtain⟨L,hL⟩:∃ L:Nat,L=N.log2 - 52:=⟨_,rfl⟩
 have hlast:max (place+mag.log2 - double.fractionBits) double.leastPlace=(L:Int) - 1074:=by
  rw[lp]
  show max (place+(mag.log2:Int) - ((52:Nat):Int)) (-1074)=_
  omega
 have htg:N.log2<53+t:=by
  have:2 ^ N.log2<2 ^ (53+t):=by
   calc 2 ^ N.log2≤N:=hg1
    _=k*2 ^ t:=hNk
    _<2 ^ 53*2 ^ t:=Nat.mul_lt_mul_of_pos_right hk (Nat.two_pow_pos _)
    _=2 ^ (53+t):=(Nat.pow_add _ _ _).symm
  exact(Nat.pow_lt_pow_iff_right (by decide:1<2)).1 this
 have hLt:L≤t:=by omega
 have hL45:L≤2045:=by omega
 obtain⟨kept,hkept⟩:∃ kept,N=kept*2 ^ L:=⟨k*2 ^ (t - L),by rw[hNk,Nat.mul_assoc,←Nat.pow_add]; congr 2; omega⟩
 have hkpos:0<kept:=by
  rcases Nat.eq_zero_or_pos kept with h|h
  ·subst h; simp at hkept; omega
  ·exact h
 have hk53:kept<9007199254740992:=by
  have:kept*2 ^ L<2 ^ 53*2 ^ L:=by
   rw[←hkept,←Nat.pow_add]
   exact Nat.lt_of_lt_of_le hg2 (Nat.pow_le_pow_right (by decide) (by omega))
  exact Nat.lt_of_mul_lt_mul_right this
 have hk52:L=0∨4503599627370496≤kept:=by
  by_cases h0:L=0
  ·exact .inl h0
  ·right
   have:2 ^ 52*2 ^ L≤kept*2 ^ L:=by
    rw[←hkept,←Nat.pow_add]
    exact Nat.le_trans (Nat.pow_le_pow_right (by decide) (by omega)) hg1
   exact Nat.le_of_mul_le_mul_right this (Nat.two_pow_pos _)
 have hcut:Toward.even.cut s (mag <<< (place - ((L:Int) - 1074)).toNat) (((L:Int) - 1074) - place).toNat=kept:=by
  by_cases hp:(L:Int) - 1074≤place
  ·have e0:(((L:Int) - 1074) - place).toNat=0:=by omega
   have e1:mag <<< (place - ((L:Int) - 1074)).toNat=kept:=by
    rw[Nat.shiftLeft_eq]
    have e2:(-1074 - place).toNat=0:=by omega
    have e3:(place+1074).toNat=(place - ((L:Int) - 1074)).toNat+L:=by omega
    rw[e2,e3,hkept,Nat.pow_add,←Nat.mul_assoc] at hN
    simp only[Nat.pow_zero,Nat.mul_one] at hN
    exact Nat.eq_of_mul_eq_mul_right (Nat.two_pow_pos _) hN
   rw[e0,e1]
   have:=cut_exact s kept 0 hkpos
   simpa using this
  ·have e1:(place - ((L:Int) - 1074)).toNat=0:=by omega
   obtain⟨d,hd⟩:∃ d:Nat,d=(((L:Int) - 1074) - place).toNat:=⟨_,rfl⟩
   have e2:mag=kept*2 ^ d:=by
    have:mag*2 ^ (place+1074).toNat=kept*2 ^ d*2 ^ (place+1074).toNat:=by
     rw[hN,hkept,Nat.mul_assoc,Nat.mul_assoc,←Nat.pow_add,←Nat.pow_add]
     congr 2; omega
    exact Nat.eq_of_mul_eq_mul_right (Nat.two_pow_pos _) this
   rw[e1,←hd,Nat.shiftLeft_zero,e2]
   exact cut_exact s kept d hkpos
 have hw:double.nearest s mag place=double.word s (L*4503599627370496+kept):=by
  unfold Format.nearest
  rw[if_neg (by omega)]
  dsimp only
  rw[hlast,hcut,lp,bn,ir]
  have:((L:Int) - 1074 - -1074).toNat=L:=by omega
  rw[this,Nat.min_eq_left (by omega)]
 rw[hw,hkept]
 exact read_word s L kept hk53 hL45 hk52
theorem write_exact(s:Bool)(mag:Nat)(place:Int)(N:Nat)
  (hN:mag*2 ^ (place+1074).toNat=N*2 ^ (-1074 - place).toNat) (hR:Rp N) :
  Exu (double.write (.number s mag place)) (if s then -(N:Int) else N):=by
 show Exu (double.nearest s mag place) _
 rcases Nat.eq_zero_or_pos mag with h0|hm
 ·subst h0
  have hN0:N=0:=by
   rcases Nat.eq_zero_or_pos N with h|h
   ·exact h
   ·have:=Nat.mul_pos h (Nat.two_pow_pos (-1074 - place).toNat); omega
  clear hN hR
  subst hN0
  obtain⟨m,e,hr,he,hv⟩:=read_word s 0 0 (by omega) (by omega) (.inl rfl)
  refine⟨s,m,e,?_,he,?_⟩
  ·unfold Format.nearest; rw[if_pos rfl]; simpa using hr
  ·rw[signed_eq,hv,Nat.zero_mul]
 ·obtain⟨m,e,hr,he,hv⟩:=nearest_exact s mag place N hm hN hR
  exact⟨s,m,e,hr,he,by rw[signed_eq,hv]⟩
theorem ex_write{s:Bool}{mag:Nat}{place:Int}{v:Int}(hs:v=if s then -(v.natAbs:Int) else v.natAbs)
  (hN:mag*2 ^ (place+1074).toNat=v.natAbs*2 ^ (-1074 - place).toNat) (hR:Rp v.natAbs) :
  Exu (double.write (.number s mag place)) v:=by
 have:=write_exact s mag place v.natAbs hN hR
 rwa[←hs] at this
theorem dv_opposite{d:Datum}{a:Int}(h:DV d a):DV d.opposite (-a):=by
 obtain⟨s,m,i,rfl,hi,rfl⟩:=h
 refine⟨!s,m,i,rfl,hi,?_⟩
 rw[signed_eq,signed_eq]; cases s<;>simp
theorem mul_exact{x y:Nat}{a b c:Int}(ha:Exu x a)(hb:Exu y b)(hc:a*b=c*2 ^ UU)(hR:Rp c.natAbs) :
  ∃ r,double.mul x y=some r∧Exu r c:=by
 obtain⟨s,m,i,hx,hi,rfl⟩:=ha
 obtain⟨t,n,j,hy,hj,rfl⟩:=hb
 refine⟨double.write (.number (s ^^ t) (m*n) (i+j)),by unfold Format.mul; rw[hx,hy]; rfl,?_⟩
 have hca:m*n*2 ^ ((i+1074).toNat+(j+1074).toNat)=c.natAbs*2 ^ UU:=by
  have:=congrArg Int.natAbs hc
  rw[Int.natAbs_mul,Int.natAbs_mul,signed_natAbs,signed_natAbs,natAbs_two_pow] at this
  rw[Nat.pow_add]
  have e:m*n*(2 ^ (i+1074).toNat*2 ^ (j+1074).toNat)=m*2 ^ (i+1074).toNat*(n*2 ^ (j+1074).toNat):=by
   simp only[Nat.mul_assoc,Nat.mul_left_comm]
  rw[e,this]
 refine ex_write ?_ ?_ hR
 ·-- the sign
  have hp:(0:Int)<2 ^ UU:=Int.pow_pos (by decide)
  generalize (2:Int) ^ UU=P at hc hp
  rw[signed_eq,signed_eq] at hc
  generalize m*2 ^ (i+1074).toNat=A at *
  generalize n*2 ^ (j+1074).toNat=B at *
  have hAB:(0:Int)≤(A:Int)*(B:Int):=Int.mul_nonneg (by omega) (by omega)
  have pos:0≤c*P→0≤c:=fun h=>Int.nonneg_of_mul_nonneg_left h hp
  have neg:c*P≤0→c≤0:=fun h=>by
   rcases Int.lt_or_le 0 c with h1|h1
   ·have:=Int.mul_pos h1 hp; omega
   ·exact h1
  cases s<;>cases t<;>simp[Int.neg_mul,Int.mul_neg] at hc ⊢
  ·have:=pos (by omega); omega
  ·have:=neg (by omega); omega
  ·have:=neg (by omega); omega
  ·have:=pos (by omega); omega
 ·have hUU:=UU_eq
  have key:m*n*2 ^ (i+j+1074).toNat*2 ^ UU=c.natAbs*2 ^ (-1074 - (i+j)).toNat*2 ^ UU:=by
   rw[Nat.mul_assoc,←Nat.pow_add]
   by_cases h:-1074≤i+j
   ·have e1:(-1074 - (i+j)).toNat=0:=by omega
    have e2:(i+j+1074).toNat+UU=(i+1074).toNat+(j+1074).toNat:=by omega
    rw[e1,e2,hca]; simp
   ·have e1:(i+j+1074).toNat=0:=by omega
    have e2:UU=(i+1074).toNat+(j+1074).toNat+(-1074 - (i+j)).toNat:=by omega
    rw[e1,Nat.zero_add]
    calc m*n*2 ^ UU=m*n*2 ^ ((i+1074).toNat+(j+1074).toNat+(-1074 - (i+j)).toNat):=by rw[←e2]
     _=m*n*2 ^ ((i+1074).toNat+(j+1074).toNat)*2 ^ (-1074 - (i+j)).toNat:=by rw[Nat.pow_add,Nat.mul_assoc,Nat.mul_assoc,Nat.mul_assoc]
     _=c.natAbs*2 ^ UU*2 ^ (-1074 - (i+j)).toNat:=by rw[hca]
     _=_:=Nat.mul_right_comm _ _ _
  exact Nat.eq_of_mul_eq_mul_right (Nat.two_pow_pos _) key
theorem compare_int(a b:Int):compare a b=if a<b then .lt else if a=b then .eq else .gt:=rfl
theorem compare_scale(a b P:Int)(hp:0<P):compare a b=compare (a*P) (b*P):=by
 rw[compare_int,compare_int]
 rcases Int.lt_trichotomy a b with h|h|h
 ·have:=Int.mul_lt_mul_of_pos_right h hp
  rw[if_pos h,if_pos this]
 ·subst h; simp
 ·have:=Int.mul_lt_mul_of_pos_right h hp
  rw[if_neg (by omega),if_neg (by omega),if_neg (by omega),if_neg (by omega)]
theorem order_exact{x y:Nat}{a b:Int}(ha:Exu x a)(hb:Exu y b):double.order x y=some (compare a b):=by
 obtain⟨s,m,i,hx,hi,rfl⟩:=ha
 obtain⟨t,n,j,hy,hj,rfl⟩:=hb
 unfold Format.order
 rw[hx,hy]
 show some _=_
 obtain⟨c,hc⟩:∃ c:Int,c=min i j:=⟨_,rfl⟩
 obtain⟨u,hu⟩:∃ u:Nat,u=(c+1074).toNat:=⟨_,rfl⟩
 have e1:signed s m (i+1074).toNat=signed s m (i - c).toNat*2 ^ u:=by
  rw[signed_scale]; congr 1; omega
 have e2:signed t n (j+1074).toNat=signed t n (j - c).toNat*2 ^ u:=by
  rw[signed_scale]; congr 1; omega
 rw[←hc,e1,e2]
 generalize signed s m (i - c).toNat=A
 generalize signed t n (j - c).toNat=B
 have hp:(0:Int)<2 ^ u:=Int.pow_pos (by decide)
 generalize (2:Int) ^ u=P at hp
 congr 1
 exact compare_scale A B P hp
def rd(s:Bool)(y:Nat):Datum :=
 if y<double.binade then .number s y double.leastPlace
 else if y<double.infRung then .number s (double.binade+y % double.binade) (double.leastPlace+(y / double.binade - 1:Nat))
 else if y=double.infRung then .infinity s
 else .nan s (y - double.infRung)
theorem read_rd(x:Nat):double.read x=rd (x / 9223372036854775808 % 2 == 1) (x % 9223372036854775808):=rfl
theorem rd_not(s:Bool)(y:Nat):rd (!s) y=(rd s y).opposite:=by
 unfold rd
 by_cases c1:y<double.binade
 ·rw[if_pos c1,if_pos c1]; rfl
 ·rw[if_neg c1,if_neg c1]
  by_cases c2:y<double.infRung
  ·rw[if_pos c2,if_pos c2]; rfl
  ·rw[if_neg c2,if_neg c2]
   by_cases c3:y=double.infRung
   ·rw[if_pos c3,if_pos c3]; rfl
   ·rw[if_neg c3,if_neg c3]; rfl
theorem read_neg(x:Nat)(h:x<2 ^ 64):double.read (x ^^^ 2 ^ 63)=(double.read x).opposite:=by
 have h1:(x ^^^ 2 ^ 63) % 9223372036854775808=x % 9223372036854775808:=by
  rw[show 9223372036854775808=2 ^ 63 from rfl,Nat.xor_mod_two_pow]; simp
 have h2:((x ^^^ 2 ^ 63) / 9223372036854775808 % 2 == 1)=!(x / 9223372036854775808 % 2 == 1):=by
  rw[show 9223372036854775808=2 ^ 63 from rfl,Nat.xor_div_two_pow]
  have hx:x / 2 ^ 63<2:=by omega
  generalize x / 2 ^ 63=y at hx
  have:y=0∨y=1:=by omega
  rcases this with rfl|rfl<;>decide
 rw[read_rd,read_rd,h1,h2,rd_not]
theorem ex_neg{x:Nat}{a:Int}(hx:x<2 ^ 64)(h:Exu x a):Exu (x ^^^ 2 ^ 63) (-a):=by
 unfold Exu; rw[read_neg x hx]; exact dv_opposite h
end Tr
namespace Tr
open Go
def VOp(op:BinOp)(x y r:Nat):Prop:=floatBits op .f64 x y=some r
theorem wpList_fok{P:Program}{ops:Array Oper}{rest:List Oper}{o:Oper}{a:Act}{w:World}{Q:Exit→Act→World→Prop}(hgd:o.guard=none)
  (op:BinOp) (t ty:TypeId) (x y:Operand) (ho:o.op=.binOp op t x y ty) (bx by_:Nat) {r:Nat}
  (hx:a.eval x=.float .f64 bx) (hy:a.eval y=.float .f64 by_) (hv:VOp op bx by_ r)
  (h:wpList P ops Q rest (a.put o.dst (.float .f64 r)) w):wpList P ops Q (o :: rest) a w :=
 wpList_plain hgd fun _ hK=>by
  have hr:=run_float_arith (P:=P) w op t .f64 bx by_ r hv
  have hg:eqGuard op t x y (.float .f64 bx) (.float .f64 by_)=pure ():=by
   unfold VOp floatBits at hv
   cases op<;>simp only at hv<;>first|rfl|(cases hv; done)
  unfold Oper.wp execOp
  simp only[ho,hx,hy,hg,Sem.run_bind,Sem.run_pure,Result.andThen_ok,hr]
  exact hK _ _ h
theorem VOp.run{P:Program}{op:BinOp}{x y r:Nat}(h:VOp op x y r)(t:TypeId)(w:World):(binOp op t (.float .f64 x) (.float .f64 y)).run P w=.ok (.float .f64 r) w :=
 run_float_arith w op t .f64 x y r h
theorem VOp.lt{op:BinOp}{x y r:Nat}(h:VOp op x y r):r<2 ^ 64:=by
 have:=floatBits_wf h
 simp[Lit.wf] at this
 exact this
theorem run_ceql{P:Program}(t:TypeId)(a b c d:Nat)(w:World):(binOp .eql t (.complex .f64 a b) (.complex .f64 c d)).run P w=.ok (.bool (Ieee.double.order a c == some .eq && Ieee.double.order b d == some .eq)) w:=by
 have h1:∀ x y:Nat,∀ w:World,(Op.Complex.cmp .eql .f64 x y).run P w=.ok (Ieee.double.order x y == some .eq) w:=fun x y w=>rfl
 simp only[binOp,Op.complexOp]
 cases h:(Ieee.double.order a c == some .eq)<;>simp[h1,h]
@[go_sem] theorem run_store_float {P:Program} {w:World} {a:Addr} {m:Mode} (k:FloatKind) (b:Nat):(store a (.float k b) m).run P w=stored P w a (.float k b) m:=run_store P w a _ m rfl
@[go_sem] theorem run_store_complex {P:Program} {w:World} {a:Addr} {m:Mode} (k:FloatKind) (x y:Nat):(store a (.complex k x y) m).run P w=stored P w a (.complex k x y) m:=run_store P w a _ m rfl
end Tr
namespace Go.Proofs.YthklnbaddobieaaGreat
open Go.RowKit Tr
def CSub(a b c d r s:Nat):Prop:=VOp .sub a c r∧VOp .sub b d s
def CAdd(a b c d r s:Nat):Prop:=VOp .add a c r∧VOp .add b d s
def CMul(a b c d r s:Nat):Prop:=∃ x y z u,VOp .mul a c x∧VOp .mul b d y∧VOp .mul a d z∧VOp .mul b c u∧VOp .sub x y r∧VOp .add z u s
def flip(x:Nat):Nat:=x ^^^ 2 ^ 63
theorem unary_neg(x:Nat):Op.unary .neg (.float .f64 x)=pure (.float .f64 (flip x)):=rfl
theorem parts_any(a b:Nat)(w:World) :
  Calls Tryz.prog 179 #[.complex .f64 a b] w fun e w'=>e=.returned (.tuple #[.float .f64 a,.float .f64 b])∧w=w':=by
 go_enter Tryz.func179,Tryz.ntmps179
 go_wp2
 go_ret2
 exact⟨rfl,rfl⟩
theorem sub_ok{a b c d r s:Nat}(h:CSub a b c d r s)(w:World) :
  Calls Tryz.prog 180 #[.complex .f64 a b,.complex .f64 c d] w fun e w'=>e=.returned (.complex .f64 r s)∧w=w':=by
 obtain⟨h1,h2⟩:=h
 go_enter Tryz.func180,Tryz.ntmps180
 go_wp2_with (refine wpList_fok rfl _ _ _ _ _ rfl _ _ rfl rfl (by assumption) ?_)
 go_ret
 exact⟨rfl,rfl⟩
theorem add_ok{a b c d r s:Nat}(h:CAdd a b c d r s)(w:World) :
  Calls Tryz.prog 178 #[.complex .f64 a b,.complex .f64 c d] w fun e w'=>e=.returned (.complex .f64 r s)∧w=w':=by
 obtain⟨h1,h2⟩:=h
 go_enter Tryz.func178,Tryz.ntmps178
 go_wp2_with (refine wpList_fok rfl _ _ _ _ _ rfl _ _ rfl rfl (by assumption) ?_)
 go_ret
 exact⟨rfl,rfl⟩
theorem mul_ok{a b c d r s:Nat}(h:CMul a b c d r s)(w:World) :
  Calls Tryz.prog 126 #[.complex .f64 a b,.complex .f64 c d] w fun e w'=>e=.returned (.complex .f64 r s)∧w=w':=by
 obtain⟨x,y,z,u,h1,h2,h3,h4,h5,h6⟩:=h
 go_enter Tryz.func126,Tryz.ntmps126
 go_wp2_with (first|(go_at_call 179; refine(parts_any _ _ _).mono ?_; rintro e w' ⟨rfl,rfl⟩)|(refine wpList_fok rfl _ _ _ _ _ rfl _ _ rfl rfl (by assumption) ?_))
 go_ret
 exact⟨rfl,rfl⟩
end Go.Proofs.YthklnbaddobieaaGreat
namespace Go.Proofs.YthklnbaddobieaaGreat
open Go.RowKit Tr
theorem bits_of(x:Nat)(w:World):(callFunc 20 #[.float .f64 x]).run Tryz.prog w=.ok (.value (.int .u64 x)) w:=by kernel_rfl
theorem of_bits(x:Int)(w:World):(callFunc 50 #[.int .u64 x]).run Tryz.prog w=.ok (.value (.float .f64 x.toNat)) w:=by kernel_rfl
theorem andNot_sign(x:Nat)(h:x<2 ^ 64):bits .andNot .u64 (x:Int) 9223372036854775808=((x % 2 ^ 63:Nat):Int):=by
 rw[u64_andNot _ _ (by omega) (by omega) (by omega) (by omega)]
 simp only[Int.toNat_natCast]
 rw[show(18446744073709551615 - (9223372036854775808:Int).toNat)=2 ^ 63 - 1 from rfl,Nat.and_two_pow_sub_one_eq_mod]
theorem abs_any{x:Nat}(h:x<2 ^ 64)(w:World) :
  Calls Tryz.prog 98 #[.float .f64 x] w fun e w'=>e=.returned (.float .f64 (x % 2 ^ 63))∧w=w':=by
 have e1:=bits_of
 have e2:=of_bits
 have e3:=andNot_sign x h
 clear h
 go_enter Tryz.func98,Tryz.ntmps98
 go_wp2
 go_ret
 exact⟨rfl,rfl⟩
theorem isnan_any(x:Nat)(w:World) :
  Calls Tryz.prog 97 #[.float .f64 x] w fun e w'=>e=.returned (.bool (Ieee.double.order x x != some .eq))∧w=w':=by
 go_enter Tryz.func97,Tryz.ntmps97
 go_wp2
 go_ret
 exact⟨rfl,rfl⟩
theorem isinf0_any{x:Nat}(h:x<2 ^ 64)(w:World) :
  Calls Tryz.prog 38 #[.float .f64 x,.int .i64 0] w fun e w'=>e=.returned (.bool (Ieee.double.order (x % 2 ^ 63) 9218868437227405311 == some .gt))∧w=w':=by
 go_enter Tryz.func38,Tryz.ntmps38
 go_wp2_with (go_at_call 98; refine(abs_any h _).mono ?_; rintro e w' ⟨rfl,rfl⟩)
 go_ret
 exact⟨rfl,rfl⟩
end Go.Proofs.YthklnbaddobieaaGreat
namespace Tr
open Ieee
def VV(b:Nat):Nat:=if b<4503599627370496 then b else(4503599627370496+b % 4503599627370496)*2 ^ (b / 4503599627370496 - 1)
def Bt(L k:Nat):Nat:=L*4503599627370496+k
def Nf(L k:Nat):Prop:=k<9007199254740992∧(L=0∨4503599627370496≤k)
theorem VV_bt{L k:Nat}(h:Nf L k):VV (Bt L k)=k*2 ^ L:=by
 obtain⟨h1,h2⟩:=h
 unfold VV Bt
 by_cases hb:L*4503599627370496+k<4503599627370496
 ·rw[if_pos hb]
  have:L=0:=by omega
  subst this; simp
 ·rw[if_neg hb]
  rcases h2 with rfl|h2
  ·have e1:(0*4503599627370496+k) / 4503599627370496=1:=by omega
   have e2:4503599627370496+(0*4503599627370496+k) % 4503599627370496=k:=by omega
   rw[e1,e2]
  ·have e1:(L*4503599627370496+k) / 4503599627370496=L+1:=by omega
   have e2:4503599627370496+(L*4503599627370496+k) % 4503599627370496=k:=by omega
   rw[e1,e2]; rfl
theorem bt_of(b:Nat):∃ L k,Nf L k∧b=Bt L k:=by
 by_cases hb:b<4503599627370496
 ·exact⟨0,b,⟨by omega,.inl rfl⟩,by unfold Bt; omega⟩
 ·refine⟨b / 4503599627370496 - 1,4503599627370496+b % 4503599627370496,⟨by omega,.inr (by omega)⟩,?_⟩
  unfold Bt; omega
theorem VV_succ{L k:Nat}(h:Nf L k):VV (Bt L k+1)=(k+1)*2 ^ L:=by
 by_cases hk:k+1<9007199254740992
 ·have e:Bt L k+1=Bt L (k+1):=by unfold Bt; omega
  rw[e,VV_bt ⟨hk,h.2.imp id (fun x=>by omega)⟩]
 ·have hk2:k+1=9007199254740992:=by have:=h.1; omega
  have e:Bt L k+1=Bt (L+1) 4503599627370496:=by unfold Bt; omega
  rw[e,VV_bt ⟨by decide,.inr (by decide)⟩,hk2,Nat.pow_succ]; omega
theorem VV_lt(b:Nat):VV b<VV (b+1):=by
 obtain⟨L,k,h,rfl⟩:=bt_of b
 rw[VV_bt h,VV_succ h]
 exact Nat.mul_lt_mul_of_pos_right (by omega) (Nat.two_pow_pos L)
theorem VV_mono{a:Nat}:∀{b:Nat},a<b→VV a<VV b
 | 0,h=>absurd h (Nat.not_lt_zero _)
 | b+1,h=>by
  rcases Nat.lt_or_ge a b with k|k
  ·exact Nat.lt_trans (VV_mono k) (VV_lt b)
  ·have:a=b:=by omega
   subst this; exact VV_lt a
theorem VV_le{a b:Nat}(h:a≤b):VV a≤VV b:=by
 rcases Nat.lt_or_ge a b with k|k
 ·exact Nat.le_of_lt (VV_mono k)
 ·have:a=b:=by omega
  subst this; exact Nat.le_refl _
theorem VV_inj{a b:Nat}(h:VV a=VV b):a=b:=by
 rcases Nat.lt_trichotomy a b with k|k|k
 ·have:=VV_mono k; omega
 ·exact k
 ·have:=VV_mono k; omega
theorem rlt_le{a b c:Rat}(h:a<b)(k:b≤c):a<c:=by grind
theorem rle_lt{a b c:Rat}(h:a≤b)(k:b<c):a<c:=by grind
theorem below_is{b L k:Nat}{Y:Rat}(h:Nf L k)(hb:(VV b:Rat)≤Y)(hn:Y<(VV (b+1):Rat))(h1:((k*2 ^ L:Nat):Rat)≤Y)(h2:Y<(((k+1)*2 ^ L:Nat):Rat)):b=Bt L k:=by
 rw[←VV_bt h] at h1
 rw[←VV_succ h] at h2
 rcases Nat.lt_trichotomy b (Bt L k) with c|c|c
 ·have e:=VV_le (show b+1≤Bt L k by omega)
  have e':(VV (b+1):Rat)≤(VV (Bt L k):Rat):=by exact_mod_cast e
  exact absurd (rlt_le hn (Rat.le_trans e' h1)) (Rat.lt_irrefl)
 ·exact c
 ·have e:=VV_le (show Bt L k+1≤b by omega)
  have e':(VV (Bt L k+1):Rat)≤(VV b:Rat):=by exact_mod_cast e
  exact absurd (rlt_le h2 (Rat.le_trans e' hb)) (Rat.lt_irrefl)
theorem dv_fun{d:Datum}{a b:Int}(ha:DV d a)(hb:DV d b):a=b:=by
 obtain⟨s,m,e,h1,h2,h3⟩:=ha
 obtain⟨s',m',e',k1,k2,k3⟩:=hb
 rw[h1] at k1
 cases k1
 rw[←h3,←k3]
theorem word_false(b:Nat):double.word false b=b:=by unfold Format.word; simp
theorem ex_vv{b:Nat}(hb:b<9218868437227405312):Exu b (VV b:Nat):=by
 obtain⟨L,k,h,rfl⟩:=bt_of b
 have hL:L≤2045:=by
  rcases h.2 with h2|h2
  ·omega
  ·unfold Bt at hb; omega
 obtain⟨m,e,h1,h2,h3⟩:=read_word false L k h.1 hL h.2
 rw[word_false] at h1
 refine⟨false,m,e,h1,h2,?_⟩
 rw[signed_eq,VV_bt h,h3]; simp
theorem ex_pos{x:Nat}{v:Int}(h:Exu x v)(hv:0<v)(hx:x<18446744073709551616):x<9218868437227405312∧((VV x:Nat):Int)=v:=by
 have hlt:x<9218868437227405312:=by
  obtain⟨s,m,e,h1,h2,h3⟩:=h
  rcases Nat.lt_or_ge x 9223372036854775808 with c|c
  ·rcases Nat.lt_or_ge x 9218868437227405312 with c2|c2
   ·exact c2
   ·exfalso
    rw[read_rd] at h1
    have e1:x % 9223372036854775808=x:=by omega
    rw[e1] at h1
    unfold rd at h1
    rw[if_neg (show ¬x<double.binade by rw[bn]; omega),if_neg (show ¬x<double.infRung by rw[ir]; omega)] at h1
    split at h1<;>cases h1
  ·exfalso
   have hs:s=true:=by
    rw[read_rd] at h1
    have e1:(x / 9223372036854775808 % 2 == 1)=true:=by
     have:x / 9223372036854775808=1:=by omega
     rw[this]; rfl
    rw[e1] at h1
    generalize x % 9223372036854775808=y at h1
    unfold rd at h1
    by_cases c1:y<double.binade
    ·rw[if_pos c1] at h1; cases h1; rfl
    ·rw[if_neg c1] at h1
     by_cases c2:y<double.infRung
     ·rw[if_pos c2] at h1; cases h1; rfl
     ·rw[if_neg c2] at h1
      split at h1<;>cases h1
   subst hs
   rw[signed_eq,if_pos rfl] at h3
   generalize m*2 ^ (e+1074).toNat=z at h3
   omega
 exact⟨hlt,dv_fun (ex_vv hlt) h⟩
end Tr
namespace Tr
open Ieee
def NearB(Y:Rat)(B:Nat):Prop:=∃ L k:Nat,Nf L k∧((k*2 ^ L:Nat):Rat)≤Y∧Y<(((k+1)*2 ^ L:Nat):Rat) ∧
  ((B=Bt L k∧(2*Y<(((2*k+1)*2 ^ L:Nat):Rat)∨(2*Y=(((2*k+1)*2 ^ L:Nat):Rat)∧k % 2=0))) ∨
   (B=Bt L k+1∧((((2*k+1)*2 ^ L:Nat):Rat)<2*Y∨(2*Y=(((2*k+1)*2 ^ L:Nat):Rat)∧k % 2=1))))
theorem nearB_fun{Y:Rat}{B C:Nat}(hB:NearB Y B)(hC:NearB Y C):B=C:=by
 obtain⟨L,k,n1,a1,a2,a3⟩:=hB
 obtain⟨L',k',n2,b1,b2,b3⟩:=hC
 have e:=below_is (Y:=Y) (b:=Bt L' k') n1 (by rw[VV_bt n2]; exact b1) (by rw[VV_succ n2]; exact b2) a1 a2
 have e1:VV (Bt L k)=VV (Bt L' k'):=by rw[e]
 have e2:VV (Bt L k+1)=VV (Bt L' k'+1):=by rw[e]
 rw[VV_bt n1,VV_bt n2] at e1
 rw[VV_succ n1,VV_succ n2] at e2
 have eL:2 ^ L=2 ^ L':=by
  have h1:(k+1)*2 ^ L=k*2 ^ L+2 ^ L:=Nat.succ_mul ..
  have h2:(k'+1)*2 ^ L'=k'*2 ^ L'+2 ^ L':=Nat.succ_mul ..
  omega
 have ek:k=k':=by
  rw[←eL] at e1
  exact Nat.mul_right_cancel (Nat.two_pow_pos L) e1
 subst ek
 rw[←eL] at b3
 rw[e] at b3
 rcases a3 with⟨c1,c2⟩|⟨c1,c2⟩<;>rcases b3 with⟨d1,d2⟩|⟨d1,d2⟩
 ·rw[c1,d1]
 ·exfalso
  generalize (((2*k+1)*2 ^ L:Nat):Rat)=z at *
  rcases c2 with c2|⟨c2,c3⟩<;>rcases d2 with d2|⟨d2,d3⟩<;>first|grind|omega
 ·exfalso
  generalize (((2*k+1)*2 ^ L:Nat):Rat)=z at *
  rcases c2 with c2|⟨c2,c3⟩<;>rcases d2 with d2|⟨d2,d3⟩<;>first|grind|omega
 ·rw[c1,d1]
theorem p2s(n:Nat):(2:Nat) ^ (n+1)=2 ^ n*2:=Nat.pow_succ ..
theorem p4(n:Nat):(2:Nat) ^ (n+2)=2 ^ n*4:=by rw[Nat.pow_succ,Nat.pow_succ,Nat.mul_assoc]
def U44:Nat:=2044
theorem U44_eq:U44=2044:=rfl
def thrN:Nat:=18014398509481983*2 ^ U44
theorem nearB_inf{Y:Rat}{B:Nat}(h:NearB Y B):B<9218868437227405312↔Y<(thrN:Rat):=by
 obtain⟨L,k,n1,a1,a2,a3⟩:=h
 have hk:=n1.1
 constructor
 ·intro hB
  by_cases c:(k+1)*2 ^ L≤thrN
  ·exact rlt_le a2 (by exact_mod_cast c)
  ·-- the greatest float: it is not rounded up
   have hL:L≤2045:=by
    rcases n1.2 with h2|h2
    ·omega
    ·rcases a3 with⟨c1,_⟩|⟨c1,_⟩<;>(unfold Bt at c1; omega)
   have hL2:L=2045:=by
    rcases Nat.lt_or_ge L 2045 with h3|h3
    ·exfalso; apply c
     have e1:(k+1)*2 ^ L≤9007199254740992*2 ^ U44:=Nat.mul_le_mul (by omega) (Nat.pow_le_pow_right (by decide) (by rw[U44_eq]; omega))
     exact Nat.le_trans e1 (Nat.mul_le_mul_right _ (by decide))
    ·omega
   have p2:(2:Nat) ^ L=2 ^ U44*2:=by rw[show L=U44+1 from hL2,p2s U44]
   have hk2:k=9007199254740991:=by
    rcases Nat.lt_or_ge k 9007199254740991 with h3|h3
    ·exfalso; apply c
     rw[p2]; unfold thrN
     generalize (2:Nat) ^ U44=P
     have:(k+1)*(P*2)=(2*(k+1))*P:=by rw[Nat.mul_comm P 2,←Nat.mul_assoc,Nat.mul_comm (k+1) 2]
     rw[this]
     exact Nat.mul_le_mul_right _ (by omega)
    ·omega
   subst hk2
   have e2:(2*9007199254740991+1)*2 ^ L=2*thrN:=by
    rw[p2]; unfold thrN
    generalize (2:Nat) ^ U44=P
    omega
   rw[e2] at a3
   rcases a3 with⟨c1,c2⟩|⟨c1,c2⟩
   ·rcases c2 with c2|⟨_,c3⟩
    ·have:((2*thrN:Nat):Rat)=2*(thrN:Rat):=by push_cast; rfl
     rw[this] at c2
     generalize (thrN:Rat)=t at *
     grind
    ·exact absurd c3 (by decide)
   ·exfalso; unfold Bt at c1; omega
 ·intro hY
  rcases Nat.lt_or_ge B 9218868437227405312 with hB|hB
  ·exact hB
  ·exfalso
   have hBt:9218868437227405311≤Bt L k:=by rcases a3 with⟨c1,_⟩|⟨c1,_⟩<;>omega
   by_cases c:thrN≤k*2 ^ L
   ·exact absurd (rle_lt (Rat.le_trans (show(thrN:Rat)≤((k*2 ^ L:Nat):Rat) by exact_mod_cast c) a1) hY) Rat.lt_irrefl
   ·have hk5:4503599627370496≤k:=by
     rcases n1.2 with h2|h2
     ·unfold Bt at hBt; omega
     ·exact h2
    have hL2:L=2045:=by
     rcases Nat.lt_or_ge L 2045 with h3|h3
     ·unfold Bt at hBt; omega
     ·rcases Nat.lt_or_ge 2045 L with h4|h4
      ·exfalso; apply c
       have e1:4503599627370496*2 ^ (U44+2)≤k*2 ^ L:=Nat.mul_le_mul hk5 (Nat.pow_le_pow_right (by decide) (by rw[U44_eq]; omega))
       refine Nat.le_trans ?_ e1
       rw[p4 U44]
       unfold thrN
       generalize (2:Nat) ^ U44=P
       omega
      ·omega
    have hk2:k=9007199254740991:=by unfold Bt at hBt; omega
    subst hk2
    have p2:(2:Nat) ^ L=2 ^ U44*2:=by rw[show L=U44+1 from hL2,p2s U44]
    have e2:(2*9007199254740991+1)*2 ^ L=2*thrN:=by
     rw[p2]; unfold thrN
     generalize (2:Nat) ^ U44=P
     omega
    rw[e2] at a3
    have e3:((2*thrN:Nat):Rat)=2*(thrN:Rat):=by push_cast; rfl
    rw[e3] at a3
    rcases a3 with⟨c1,_⟩|⟨c1,c2⟩
    ·unfold Bt at c1; omega
    ·generalize (thrN:Rat)=t at *
     rcases c2 with c2|⟨c2,_⟩<;>grind
theorem near_shift{N D q r low L k rest:Nat}{c Y:Rat}(hD:0<D)(hq:N=q*D+r)(hr:r<D)(hc:0<c)(hY:Y=(N:Rat) / (D:Rat)*c)(hL:((2 ^ L:Nat):Rat)=((2 ^ low:Nat):Rat)*c)
  (hk:q=k*2 ^ low+rest) (hrest:rest<2 ^ low) (hlow:0<low) (hN:Nf L k) :
  NearB Y (if 2 ^ (low - 1)<rest∨(rest=2 ^ (low - 1)∧(r≠0∨k % 2=1)) then Bt L k+1 else Bt L k):=by
 have hD':(0:Rat)<(D:Rat):=by exact_mod_cast hD
 have hX:(N:Rat) / (D:Rat)=(q:Rat)+(r:Rat) / (D:Rat):=by
  rw[hq]; push_cast
  have:(D:Rat)≠0:=Rat.ne_of_gt hD'
  grind
 have hr1:(0:Rat)≤(r:Rat) / (D:Rat):=by
  rw[Rat.div_def]; exact Rat.mul_nonneg (by exact_mod_cast Nat.zero_le r) (Rat.le_of_lt (Rat.inv_pos.2 hD'))
 have hr2:(r:Rat) / (D:Rat)<1:=by
  rw[Rat.div_lt_iff hD']; rw[Rat.one_mul]; exact_mod_cast hr
 have hr0:r=0↔(r:Rat) / (D:Rat)=0:=by
  constructor
  ·rintro rfl; simp[Rat.div_def]
  ·intro h
   have:(r:Rat)=0:=by
    have hne:(D:Rat)≠0:=Rat.ne_of_gt hD'
    grind
   exact_mod_cast this
 generalize hx:(r:Rat) / (D:Rat)=x at *
 have hp:(2:Nat) ^ low=2*2 ^ (low - 1):=by
  obtain⟨m,rfl⟩:∃ m,low=m+1:=⟨low - 1,by omega⟩
  rw[Nat.add_sub_cancel,Nat.pow_succ,Nat.mul_comm]
 have eq0:(q:Rat)=(k:Rat)*((2 ^ low:Nat):Rat)+(rest:Rat):=by rw[hk]; push_cast; rfl
 have hrest':(rest:Rat)+1≤((2 ^ low:Nat):Rat):=by exact_mod_cast hrest
 have ePL:((2 ^ low:Nat):Rat)=2*((2 ^ (low - 1):Nat):Rat):=by rw[hp]; push_cast; rfl
 have m1:∀ a:Nat,((a*2 ^ L:Nat):Rat)=(a:Rat)*((2 ^ low:Nat):Rat)*c:=fun a=>by
  rw[Rat.mul_assoc,←hL]; push_cast; rfl
 have hYX:Y=((q:Rat)+x)*c:=by rw[hY,hX]
 generalize ((2 ^ low:Nat):Rat)=P at *
 generalize hH:((2 ^ (low - 1):Nat):Rat)=H at *
 have mono:∀ a b:Rat,a<b→a*c<b*c:=fun a b h=>Rat.mul_lt_mul_of_pos_right h hc
 have monole:∀ a b:Rat,a≤b→a*c≤b*c:=fun a b h=>Rat.mul_le_mul_of_nonneg_right h (Rat.le_of_lt hc)
 have hrest0:(0:Rat)≤(rest:Rat):=by exact_mod_cast Nat.zero_le rest
 refine⟨L,k,hN,?_,?_,?_⟩
 ·rw[m1,hYX]; apply monole; rw[eq0]; grind
 ·rw[m1,hYX]; apply mono; rw[eq0]; push_cast; grind
 ·have e2:2*Y=(2*((q:Rat)+x))*c:=by rw[hYX,Rat.mul_assoc]
  rw[m1,e2]
  have ek:(((2*k+1:Nat)):Rat)=2*(k:Rat)+1:=by push_cast; rfl
  rw[ek]
  split
  ·rename_i h
   refine .inr ⟨rfl,?_⟩
   rcases h with h|⟨h,h'⟩
   ·have h1:H+1≤(rest:Rat):=by rw[←hH]; exact_mod_cast h
    exact .inl (mono _ _ (by rw[eq0]; grind))
   ·have h1:(rest:Rat)=H:=by rw[←hH,h]
    by_cases r0:r=0
    ·have x0:=hr0.1 r0
     rcases h' with h'|h'
     ·exact absurd r0 h'
     ·exact .inr ⟨by rw[eq0,x0,h1,ePL]; grind,h'⟩
    ·have x0:x≠0:=fun k=>r0 (hr0.2 k)
     have x1:0<x:=by grind
     exact .inl (mono _ _ (by rw[eq0,h1,ePL]; grind))
  ·rename_i h
   refine .inl ⟨rfl,?_⟩
   rcases Nat.lt_trichotomy rest (2 ^ (low - 1)) with c1|c1|c1
   ·have h1:(rest:Rat)+1≤H:=by rw[←hH]; exact_mod_cast c1
    exact .inl (mono _ _ (by rw[eq0]; grind))
   ·have r0:r=0:=Classical.byContradiction fun k=>h (.inr ⟨c1,.inl k⟩)
    have k0:k % 2=0:=by
     rcases Nat.mod_two_eq_zero_or_one k with k0|k0
     ·exact k0
     ·exact absurd (.inr ⟨c1,.inr k0⟩) h
    have h1:(rest:Rat)=H:=by rw[←hH,c1]
    exact .inr ⟨by rw[eq0,hr0.1 r0,h1,ePL]; grind,k0⟩
   ·exact absurd (.inl c1) h
end Tr
