/- Laws for the walk. -/
import Derived.Test.YtgjkifdilflcbaaGreatZau
set_option linter.unusedVariables false
set_option maxHeartbeats 4000000
namespace Go.Proofs.YtgjkifdilflcbaaGreat
open Go.RowKit Tr
def encN(n:Nat):Value:=.agg #[.bool false,.string (strN n)]
theorem encZ_nat(n:Nat):encZ (n:Int)=encN n:=by
 unfold encZ encN
 simp
def cF(q:Rat):List GF:=[gx (.bool (decide (q.num<0))),gx (.string (strN q.num.natAbs)),gx (.string (strN q.den))]
end Go.Proofs.YtgjkifdilflcbaaGreat
namespace Tr
open Go Go.RowKit Go.Proofs.YtgjkifdilflcbaaGreat
theorem RL.wn{q:Rat}{k:Nat}(h:RL q k):WL q.num.natAbs k:=h.1
theorem RL.wd{q:Rat}{k:Nat}(h:RL q k):WL q.den k:=h.2
end Tr
namespace Go.Proofs.YtgjkifdilflcbaaGreat
open Go.RowKit Tr
theorem WL.i{n k:Nat}(h:WL n k):WL (n:Int).natAbs k:=by rw[Int.natAbs_natCast]; exact h
theorem WL.mul{x y:Int}{j k:Nat}(hx:WL x.natAbs j)(hy:WL y.natAbs k):WL (x*y).natAbs (j+k):=by rw[Int.natAbs_mul]; exact wl_mul hx hy
theorem WL.add{x y:Int}{k:Nat}(hx:WL x.natAbs k)(hy:WL y.natAbs k):WL (x+y).natAbs (k+1):=wl_mono (Int.natAbs_add_le x y) (wl_add hx hy)
theorem WL.neg{x:Int}{k:Nat}(hx:WL x.natAbs k):WL (-x).natAbs k:=by rw[Int.natAbs_neg]; exact hx
theorem divInt_quo{a b:Int}(hb:b≠0)(g:Int)(hg:g=if b<0 then -(Nat.gcd a.natAbs b.natAbs:Int) else(Nat.gcd a.natAbs b.natAbs:Int)):a / g=(Rat.divInt a b).num∧b / g=((Rat.divInt a b).den:Int):=by
 obtain⟨h1,h2⟩:=divInt_parts hb g hg
 have hd:∀ z:Int,((Nat.gcd a.natAbs b.natAbs:Nat):Int) ∣ z→g ∣ z:=fun z h=>by
  rw[hg]; split
  ·exact Int.neg_dvd.2 h
  ·exact h
 rw[h1,h2]
 exact⟨(Int.tdiv_eq_ediv_of_dvd (hd a (Int.ofNat_dvd_left.2 (Nat.gcd_dvd_left _ _)))).symm,(Int.tdiv_eq_ediv_of_dvd (hd b (Int.ofNat_dvd_left.2 (Nat.gcd_dvd_right _ _)))).symm⟩
theorem fof_pos(a b:Int)(hb1:0<b)(ha:WL a.natAbs 536870912)(hb:WL b.natAbs 536870912):PureC Tryz.prog 134 [encZ (a),encZ (b)] ((encF (Rat.divInt a b))):=by
  have hb0:b≠0:=by omega
  have hg0:0<Nat.gcd a.natAbs b.natAbs:=Nat.gcd_pos_of_pos_right _ (by omega)
  have hgl:WL (Nat.gcd a.natAbs b.natAbs) 536870912:=wl_mono (Nat.gcd_le_right _ (by omega)) hb
  obtain⟨e1,e2⟩:=divInt_quo (a:=a) (b:=b) hb0 _ rfl
  rw[if_neg (show ¬b<0 by omega)] at e1 e2
  have d1:=sdivmod a ((Nat.gcd a.natAbs b.natAbs:Nat):Int) (by omega) ha hgl.i
  have d2:=sdivmod b ((Nat.gcd a.natAbs b.natAbs:Nat):Int) (by omega) hb hgl.i
  rw[e1] at d1
  rw[e2,encZ_nat] at d2
  exact ev_pure (hp:=false) (L:=cz (a)++cz (b)++cz (((Nat.gcd a.natAbs b.natAbs:Nat):Int))++[gx (.int .i64 (b.sign))]++cz (a % ((Nat.gcd a.natAbs b.natAbs:Nat):Int))++cz (b % ((Nat.gcd a.natAbs b.natAbs:Nat):Int))++cF (Rat.divInt a b)) tys_ok mixed
    [gp 160 [.row [.sym 0,.sym 1],.row [.sym 2,.sym 3]] (.r (.row [.sym 4,.sym 5])) eo160 (sgcd a b ha hb) rfl rfl,gp 78 [.row [.sym 2,.sym 3]] (.r (.c (.sym 6))) eo78 (ssign b) rfl rfl,gp 161 [.row [.sym 0,.sym 1],.row [.sym 4,.sym 5]] (.tup [.row [.sym 11,.sym 12],.row [.sym 7,.sym 8]]) eo161 (d1) rfl rfl,gp 161 [.row [.sym 2,.sym 3],.row [.sym 4,.sym 5]] (.tup [.row [.lit (.bool false),.sym 13],.row [.sym 9,.sym 10]]) eo161 (d2) rfl rfl]
    [gbInt .lss 3 .i64 (.sym 6) (.lit (.int .i64 0)) b.sign 0 false (by rw[Int.sign_eq_one_of_pos hb1]; rfl) rfl rfl] []
    Tryz.func134 100 [.row [.sym 0,.sym 1],.row [.sym 2,.sym 3]] (.r (.row [.sym 11,.sym 12,.lit (.bool false),.sym 13])) (by kernel_rfl) rfl rfl
theorem fof_neg(a b:Int)(hb1:b<0)(ha:WL a.natAbs 536870912)(hb:WL b.natAbs 536870912):PureC Tryz.prog 134 [encZ (a),encZ (b)] ((encF (Rat.divInt a b))):=by
  have hb0:b≠0:=by omega
  have hg0:0<Nat.gcd a.natAbs b.natAbs:=Nat.gcd_pos_of_pos_right _ (by omega)
  have hgl:WL (Nat.gcd a.natAbs b.natAbs) 536870912:=wl_mono (Nat.gcd_le_right _ (by omega)) hb
  obtain⟨e1,e2⟩:=divInt_quo (a:=a) (b:=b) hb0 _ rfl
  rw[if_pos (show b<0 by omega)] at e1 e2
  have d1:=sdivmod a (-((Nat.gcd a.natAbs b.natAbs:Nat):Int)) (by omega) ha hgl.i.neg
  have d2:=sdivmod b (-((Nat.gcd a.natAbs b.natAbs:Nat):Int)) (by omega) hb hgl.i.neg
  rw[e1] at d1
  rw[e2,encZ_nat] at d2
  exact ev_pure (hp:=false) (L:=cz (a)++cz (b)++cz (((Nat.gcd a.natAbs b.natAbs:Nat):Int))++[gx (.int .i64 (b.sign))]++cz (-((Nat.gcd a.natAbs b.natAbs:Nat):Int))++cz (a % -((Nat.gcd a.natAbs b.natAbs:Nat):Int))++cz (b % -((Nat.gcd a.natAbs b.natAbs:Nat):Int))++cF (Rat.divInt a b)) tys_ok mixed
    [gp 160 [.row [.sym 0,.sym 1],.row [.sym 2,.sym 3]] (.r (.row [.sym 4,.sym 5])) eo160 (sgcd a b ha hb) rfl rfl,gp 78 [.row [.sym 2,.sym 3]] (.r (.c (.sym 6))) eo78 (ssign b) rfl rfl,gp 159 [.row [.sym 4,.sym 5]] (.r (.row [.sym 7,.sym 8])) eo159 (sneg _) rfl rfl,gp 161 [.row [.sym 0,.sym 1],.row [.sym 7,.sym 8]] (.tup [.row [.sym 13,.sym 14],.row [.sym 9,.sym 10]]) eo161 (d1) rfl rfl,gp 161 [.row [.sym 2,.sym 3],.row [.sym 7,.sym 8]] (.tup [.row [.lit (.bool false),.sym 15],.row [.sym 11,.sym 12]]) eo161 (d2) rfl rfl]
    [gbInt .lss 3 .i64 (.sym 6) (.lit (.int .i64 0)) b.sign 0 true (by rw[Int.sign_eq_neg_one_of_neg hb1]; rfl) rfl rfl] []
    Tryz.func134 100 [.row [.sym 0,.sym 1],.row [.sym 2,.sym 3]] (.r (.row [.sym 13,.sym 14,.lit (.bool false),.sym 15])) (by kernel_rfl) rfl rfl
theorem fof(a b:Int)(hb0:b≠0)(ha:WL a.natAbs 536870912)(hb:WL b.natAbs 536870912):PureC Tryz.prog 134 [encZ a,encZ b] (encF (Rat.divInt a b)):=by
 rcases(show b<0∨0<b by omega) with h|h
 ·exact fof_neg a b h ha hb
 ·exact fof_pos a b h ha hb
theorem stimes_zn(x:Int)(n:Nat)(hx:WL x.natAbs 1073741824)(hn:WL n 1073741824):PureC Tryz.prog 76 [encZ x,encN n] (encZ (x*(n:Int))):=by
 have:=stimes x n hx hn.i
 rwa[encZ_nat] at this
theorem stimes_nz(n:Nat)(x:Int)(hx:WL x.natAbs 1073741824)(hn:WL n 1073741824):PureC Tryz.prog 76 [encN n,encZ x] (encZ ((n:Int)*x)):=by
 have:=stimes n x hn.i hx
 rwa[encZ_nat] at this
theorem stimes_nn(m n:Nat)(hm:WL m 1073741824)(hn:WL n 1073741824):PureC Tryz.prog 76 [encN m,encN n] (encZ ((m:Int)*(n:Int))):=by
 have:=stimes m n hm.i hn.i
 rwa[encZ_nat,encZ_nat] at this
theorem fplus(x y:Rat)(hx:RL x 134217728)(hy:RL y 134217728):PureC Tryz.prog 106 [encF (x),encF (y)] ((encF (x+y))):=by
  have ha:=WL.mul hx.wn hy.wd.i
  have hb:=WL.mul hy.wn hx.wd.i
  have hd:=WL.mul hx.wd.i hy.wd.i
  have ho:=fof (x.num*(y.den:Int)+y.num*(x.den:Int)) ((x.den:Int)*(y.den:Int)) (Int.mul_ne_zero den_ne den_ne) ((ha.add hb).mono (by decide)) (hd.mono (by decide))
  rw[add_divInt] at ho
  exact ev_pure (hp:=false) (L:=cF (x)++cF (y)++cz (x.num*(y.den:Int))++cz (y.num*(x.den:Int))++cz (x.num*(y.den:Int)+y.num*(x.den:Int))++cz ((x.den:Int)*(y.den:Int))++cF (x+y)) tys_ok mixed
    [gp 76 [.row [.sym 0,.sym 1],.row [.lit (.bool false),.sym 5]] (.r (.row [.sym 6,.sym 7])) eo76 (stimes_zn _ _ (hx.wn.mono (by decide)) (hy.wd.mono (by decide))) rfl rfl,gp 76 [.row [.sym 3,.sym 4],.row [.lit (.bool false),.sym 2]] (.r (.row [.sym 8,.sym 9])) eo76 (stimes_zn _ _ (hy.wn.mono (by decide)) (hx.wd.mono (by decide))) rfl rfl,gp 142 [.row [.sym 6,.sym 7],.row [.sym 8,.sym 9]] (.r (.row [.sym 10,.sym 11])) eo142 (splus _ _ (ha.mono (by decide)) (hb.mono (by decide))) rfl rfl,gp 76 [.row [.lit (.bool false),.sym 2],.row [.lit (.bool false),.sym 5]] (.r (.row [.sym 12,.sym 13])) eo76 (stimes_nn _ _ (hx.wd.mono (by decide)) (hy.wd.mono (by decide))) rfl rfl,gp 134 [.row [.sym 10,.sym 11],.row [.sym 12,.sym 13]] (.r (.row [.sym 14,.sym 15,.lit (.bool false),.sym 16])) eo134 (ho) rfl rfl]
    [] []
    Tryz.func106 100 [.row [.sym 0,.sym 1,.lit (.bool false),.sym 2],.row [.sym 3,.sym 4,.lit (.bool false),.sym 5]] (.r (.row [.sym 14,.sym 15,.lit (.bool false),.sym 16])) (by kernel_rfl) rfl rfl
theorem ftimes(x y:Rat)(hx:RL x 134217728)(hy:RL y 134217728):PureC Tryz.prog 108 [encF (x),encF (y)] ((encF (x*y))):=by
  have ho:=fof (x.num*y.num) ((x.den:Int)*(y.den:Int)) (Int.mul_ne_zero den_ne den_ne) ((WL.mul hx.wn hy.wn).mono (by decide)) ((WL.mul hx.wd.i hy.wd.i).mono (by decide))
  rw[mul_divInt] at ho
  exact ev_pure (hp:=false) (L:=cF (x)++cF (y)++cz (x.num*y.num)++cz ((x.den:Int)*(y.den:Int))++cF (x*y)) tys_ok mixed
    [gp 76 [.row [.sym 0,.sym 1],.row [.sym 3,.sym 4]] (.r (.row [.sym 6,.sym 7])) eo76 (stimes _ _ (hx.wn.mono (by decide)) (hy.wn.mono (by decide))) rfl rfl,gp 76 [.row [.lit (.bool false),.sym 2],.row [.lit (.bool false),.sym 5]] (.r (.row [.sym 8,.sym 9])) eo76 (stimes_nn _ _ (hx.wd.mono (by decide)) (hy.wd.mono (by decide))) rfl rfl,gp 134 [.row [.sym 6,.sym 7],.row [.sym 8,.sym 9]] (.r (.row [.sym 10,.sym 11,.lit (.bool false),.sym 12])) eo134 (ho) rfl rfl]
    [] []
    Tryz.func108 100 [.row [.sym 0,.sym 1,.lit (.bool false),.sym 2],.row [.sym 3,.sym 4,.lit (.bool false),.sym 5]] (.r (.row [.sym 10,.sym 11,.lit (.bool false),.sym 12])) (by kernel_rfl) rfl rfl
theorem over_divInt(x y:Rat)(hy:y≠0):Rat.divInt (x.num*(y.den:Int)) ((x.den:Int)*y.num)=x / y:=by
 rw[Rat.div_def,←inv_divInt]
 conv=>rhs; lhs; rw[←Rat.num_divInt_den x]
 rw[Rat.divInt_mul_divInt]
theorem fover(x y:Rat)(hx:RL x 134217728)(hy:RL y 134217728)(h0:y≠0):PureC Tryz.prog 94 [encF (x),encF (y)] ((encF (x / y))):=by
  have hn0:y.num≠0:=fun h=>h0 (Rat.num_eq_zero.1 h)
  have ho:=fof (x.num*(y.den:Int)) ((x.den:Int)*y.num) (Int.mul_ne_zero den_ne hn0) ((WL.mul hx.wn hy.wd.i).mono (by decide)) ((WL.mul hx.wd.i hy.wn).mono (by decide))
  rw[over_divInt x y h0] at ho
  exact ev_pure (hp:=false) (L:=cF (x)++cF (y)++cz (x.num*(y.den:Int))++cz ((x.den:Int)*y.num)++cF (x / y)) tys_ok mixed
    [gp 76 [.row [.sym 0,.sym 1],.row [.lit (.bool false),.sym 5]] (.r (.row [.sym 6,.sym 7])) eo76 (stimes_zn _ _ (hx.wn.mono (by decide)) (hy.wd.mono (by decide))) rfl rfl,gp 76 [.row [.lit (.bool false),.sym 2],.row [.sym 3,.sym 4]] (.r (.row [.sym 8,.sym 9])) eo76 (stimes_nz _ _ (hy.wn.mono (by decide)) (hx.wd.mono (by decide))) rfl rfl,gp 134 [.row [.sym 6,.sym 7],.row [.sym 8,.sym 9]] (.r (.row [.sym 10,.sym 11,.lit (.bool false),.sym 12])) eo134 (ho) rfl rfl]
    [] []
    Tryz.func94 100 [.row [.sym 0,.sym 1,.lit (.bool false),.sym 2],.row [.sym 3,.sym 4,.lit (.bool false),.sym 5]] (.r (.row [.sym 10,.sym 11,.lit (.bool false),.sym 12])) (by kernel_rfl) rfl rfl
theorem fneg(x:Rat):PureC Tryz.prog 133 [encF x] (encF (-x)):=by
 have hn:=sneg x.num
 rw[←Rat.neg_num] at hn
 exact ev_pure (hp:=false) (L:=cF (x)++cz ((-x).num)) tys_ok mixed
  [gp 159 [.row [.sym 0,.sym 1]] (.r (.row [.sym 3,.sym 4])) eo159 (hn) rfl rfl]
  [] []
  Tryz.func133 100 [.row [.sym 0,.sym 1,.lit (.bool false),.sym 2]] (.r (.row [.sym 3,.sym 4,.lit (.bool false),.sym 2])) (by kernel_rfl) rfl rfl
theorem fminus(x y:Rat)(hx:RL x 134217728)(hy:RL y 134217728):PureC Tryz.prog 107 [encF (x),encF (y)] ((encF (x - y))):=by
  have hp:=fplus x (-y) hx (RL_neg hy)
  rw[←Rat.sub_eq_add_neg] at hp
  exact ev_pure (hp:=false) (L:=cF (x)++cF (y)++cF (-y)++cF (x - y)) tys_ok mixed
    [gp 133 [.row [.sym 3,.sym 4,.lit (.bool false),.sym 5]] (.r (.row [.sym 6,.sym 7,.lit (.bool false),.sym 8])) eo133 (fneg y) rfl rfl,gp 106 [.row [.sym 0,.sym 1,.lit (.bool false),.sym 2],.row [.sym 6,.sym 7,.lit (.bool false),.sym 8]] (.r (.row [.sym 9,.sym 10,.lit (.bool false),.sym 11])) eo106 (hp) rfl rfl]
    [] []
    Tryz.func107 100 [.row [.sym 0,.sym 1,.lit (.bool false),.sym 2],.row [.sym 3,.sym 4,.lit (.bool false),.sym 5]] (.r (.row [.sym 9,.sym 10,.lit (.bool false),.sym 11])) (by kernel_rfl) rfl rfl
theorem fsign(x:Rat):PureC Tryz.prog 36 [encF (x)] ((.int .i64 (x.num.sign))):=by
 exact ev_pure (hp:=false) (L:=cF (x)++[gx (.int .i64 (x.num.sign))]) tys_ok mixed
  [gp 78 [.row [.sym 0,.sym 1]] (.r (.c (.sym 3))) eo78 (ssign _) rfl rfl]
  [] []
  Tryz.func36 100 [.row [.sym 0,.sym 1,.lit (.bool false),.sym 2]] (.r (.c (.sym 3))) (by kernel_rfl) rfl rfl
theorem fint(n:Int)(h1:-9223372036854775808≤n)(h2:n<9223372036854775808):PureC Tryz.prog 35 [.int .i64 (n)] ((encF ((n:Rat)))):=by
  have h:=sof 1 (by decide) (by decide)
  rw[show(1:Int)=((1:Nat):Int) from rfl,encZ_nat] at h
  exact ev_pure (hp:=false) (L:=[gx (.int .i64 (n))]++cF ((n:Rat))) tys_ok mixed
    [gp 77 [.c (.sym 0)] (.r (.row [.sym 1,.sym 2])) eo77 (sof n h1 h2) rfl rfl,gp 77 [.c (.lit (.int .i64 1))] (.r (.row [.lit (.bool false),.sym 3])) eo77 (h) rfl rfl]
    [] []
    Tryz.func35 100 [.c (.sym 0)] (.r (.row [.sym 1,.sym 2,.lit (.bool false),.sym 3])) (by kernel_rfl) rfl rfl
end Go.Proofs.YtgjkifdilflcbaaGreat
namespace Go.Proofs.YtgjkifdilflcbaaGreat
open Go.RowKit Tr
theorem size_nil{s:ByteArray}(h:s.size=0):s=⟨#[]⟩:=by
 apply ByteArray.ext
 apply Array.eq_empty_of_size_eq_zero
 exact h
def OkW(neg:Bool)(s:ByteArray):Prop:=WForm neg s∧s.size≤16384
theorem noLead_nil:NoLead ⟨#[]⟩:=fun x l h=>by simp at h
theorem lead_head{s:ByteArray}(hs:0<s.size):NoLead s↔s[0].toNat≠0:=by
  have e:s.data.toList=s[0] :: s.data.toList.tail:=by
    cases h:s.data.toList with
    | nil => have : s.data.toList.length = s.size := by simp
             rw[h] at this; simp at this; omega
    | cons x l =>
      have h0:s.data[0]?=some x:=by rw[←Array.getElem?_toList,h]; rfl
      have h1:s[0]=x:=by
        have h2:s.data[0]?=some s[0]:=Array.getElem?_eq_getElem hs
        rw[h2] at h0; simpa using h0
      rw[h1]; rfl
  constructor
  · intro h hx
    exact h _ _ e (UInt8.toNat_inj.1 hx)
  · intro h x l hl hx
    rw[e] at hl
    simp at hl
    rw[←hl.1] at hx
    exact h (by rw[hx]; rfl)
end Go.Proofs.YtgjkifdilflcbaaGreat
namespace Go.Proofs.YtgjkifdilflcbaaGreat
open Go.RowKit Tr
def FracOk(v:Value):Prop:=∃ q:Rat,v=encF q∧(strN q.num.natAbs).size≤1024∧(strN q.den).size≤1024
theorem okW_strN(z:Int)(h:(strN z.natAbs).size≤16384):OkW (decide (z<0)) (strN z.natAbs):=by
 refine⟨⟨fun h0=>?_,noLead_strN _⟩,h⟩
 have:z.natAbs=0:=by
  have:=(numS_zero (noLead_strN z.natAbs)).2 h0
  rwa[numS_strN] at this
 have:z=0:=by omega
 subst this; rfl
theorem encF_parts{q:Rat}{n1 n2:Bool}{s1 s2:ByteArray}(h:Value.agg #[.bool n1,.string s1,.bool n2,.string s2]=encF q):n1=decide (q.num<0)∧s1=strN q.num.natAbs∧n2=false∧s2=strN q.den:=by
 unfold encF at h
 simpa using h
theorem encF_divInt{q:Rat}{n1 n2:Bool}{s1 s2:ByteArray}(h:Value.agg #[.bool n1,.string s1,.bool n2,.string s2]=encF q):Rat.divInt (sgn n1 (numS s1)) (sgn n2 (numS s2))=q:=by
 obtain⟨rfl,rfl,rfl,rfl⟩:=encF_parts h
 rw[numS_strN,numS_strN,sgn_self]
 show Rat.divInt q.num ((q.den:Nat):Int)=q
 exact Rat.num_divInt_den q
theorem toL_iff{a b:ByteArray}:a.toList=b.toList↔a=b:=by
 rw[ByteArray.toList_eq,ByteArray.toList_eq]
 constructor
 ·intro h; cases a; cases b; simp_all
 ·rintro rfl; rfl
theorem wl_size{n:Nat}{s:ByteArray}(h:numS s=n):(words n).length≤s.size:=by
 subst h
 exact words_length_le (Nat.lt_of_lt_of_le (numS_lt s) (Nat.pow_le_pow_left (by decide) _))
theorem RL_int(n:Int){k:Nat}(h:(words n.natAbs).length≤k)(hk:1≤k):RL (n:Rat) k:=by
 refine⟨?_,?_⟩
 ·rw[Rat.num_intCast]; exact h
 ·rw[Rat.den_intCast]; exact Nat.le_trans (words_length_le (k:=1) (by decide)) hk
theorem RL_i64(n:Int)(h0:-9223372036854775808≤n)(h1:n<9223372036854775808):RL (n:Rat) 2:=RL_int n (words_length_le (k:=2) (by omega)) (by decide)
theorem encF_two(q:Rat):∃ b1 t1 t2,encF q=.agg #[.bool b1,.string t1,.bool false,.string t2]:=⟨_,_,_,rfl⟩
set_option maxRecDepth 100000 in
theorem FInt_any(n:Int)(hn0:-9223372036854775808≤n)(hn1:n<9223372036854775808)(w:World) :
  Calls Tryz.prog 53 #[.int .i64 n] w fun e w'=>e=.returned (encF n)∧Below w.heap.size w w':=by
 have HA:=Lib.hid (show Below w.heap.size w (w.alloc (.cells #[.bool false,.string ⟨#[]⟩,.bool false,.string ⟨#[]⟩] 25)) from br.alloc (Nat.le_refl _) _)
 have HS:=Lib.hid (RSetInt64_any (w.heap.size+1) _ n hn0 hn1 ((w.alloc (.cells #[.bool false,.string ⟨#[]⟩,.bool false,.string ⟨#[]⟩] 25)).alloc zR) (by have:=heap_alloc_new (w.alloc (.cells #[.bool false,.string ⟨#[]⟩,.bool false,.string ⟨#[]⟩] 25)) zR; simpa using this) (by decide) noW_zRat)
 go_enter Tryz.func53,Tryz.ntmps53
 go_wp2_with fail
 refine HS.out.mono ?_
 rintro e w1 ⟨rfl,hp⟩
 have hr:=(hp.ratP (rcv_noA _)).noA
 have HT:=Lib.hid (told_any _ _ NoA w1 hr ((RL_i64 n hn0 hn1).mono (by decide)))
 have hz:(w.alloc (.cells #[.bool false,.string ⟨#[]⟩,.bool false,.string ⟨#[]⟩] 25)).heap.size=w.heap.size+1:=by simp
 have hb1:=below_of_alloc (by rw[hz]; exact hp.1)
 clear HS hp hr
 go_wp2_with fail
 refine HT.out.mono ?_
 rintro e w2 ⟨rfl,hb2⟩
 have hb12:=hb1.trans (hb2.mono hb1.size)
 obtain⟨e0,e1,e2,e3,f0,f1,f2,f3⟩:=new_four w _ _ _ _ _ hb12
 have HB:=Lib.hid (HA.out.trans (hb12.mono (by simp)))
 obtain⟨b1,t1,t2,he⟩:=encF_two n
 have HE:=Lib.hid he
 rw[he]
 clear he hb1 hb2 hb12 HT hz
 go_wp2_with fail
 refine bodyPost_ret (v:=.agg #[.bool b1,.string t1,.bool false,.string t2]) (by simp[results,Tryz.results53,go_sem,e0,e1,e2,e3]) rfl ⟨by rw[HE.out],?_⟩
 exact((((HB.out.setCell (p:=⟨w.heap.size,0,none⟩) (Nat.le_refl _) _).setCell (p:=⟨w.heap.size,1,none⟩) (Nat.le_refl _) _).setCell (p:=⟨w.heap.size,2,none⟩) (Nat.le_refl _) _).setCell (p:=⟨w.heap.size,3,none⟩) (Nat.le_refl _) _)
end Go.Proofs.YtgjkifdilflcbaaGreat
namespace Go.Proofs.YtgjkifdilflcbaaGreat
open Go.RowKit Tr
set_option maxRecDepth 100000 in
theorem formed_any(neg:Bool)(s:ByteArray)(r:Bool)(hr:r=true↔WForm neg s)(w:World) :
  Calls Tryz.prog 166 #[.agg #[.bool neg,.string s]] w fun e w'=>e=.returned (.bool r)∧Below w.heap.size w w':=by
 have HB:=Lib.hid (show Below w.heap.size w (w.alloc (.cells #[.bool neg,.string s] 23)) from br.alloc (Nat.le_refl _) _)
 rcases Nat.eq_zero_or_pos s.size with h0|h0
 ·have:=size_nil h0
  subst this
  have hr2:r=!neg:=by
   have:WForm neg ⟨#[]⟩↔neg=false:=⟨fun h=>h.1 rfl,fun h=>⟨fun _=>h,noLead_nil⟩⟩
   rw[this] at hr
   cases neg<;>cases r<;>simp_all
  subst hr2
  clear hr h0
  go_enter Tryz.func166,Tryz.ntmps166
  go_wp2
  all_goals go_ret
  all_goals exact⟨rfl,HB.out⟩
 ·have hne:¬s.toList=[]:=fun h=>by
   have h2:s.toList.length=s.size:=by rw[ByteArray.toList_eq]; simp
   rw[h] at h2; simp at h2; omega
  have hne2:s.toList.isEmpty=false:=by simpa using hne
  have hr2:r=((s[0].toNat:Int) != 0):=by
   have h1:WForm neg s↔s[0].toNat≠0:=⟨fun h=>(lead_head h0).1 h.2,fun h=>⟨fun h=>by omega,(lead_head h0).2 h⟩⟩
   rw[h1] at hr
   by_cases h:s[0].toNat=0
   ·rw[h] at hr ⊢; cases r; rfl; simp at hr
   ·have h3:((s[0].toNat:Int) != 0)=true:=by simpa using h
    rw[h3]; exact hr.2 h
  subst hr2
  clear hr hne
  go_enter Tryz.func166,Tryz.ntmps166
  go_wp2
  all_goals go_ret
  all_goals exact⟨rfl,HB.out⟩
theorem cmpI_zero{x y:Int}:cmpI x y=0↔x=y:=by unfold cmpI; split; omega; split<;>omega
theorem fracOk_parts{n1:Bool}{s1 s2:ByteArray}(h1:WForm n1 s1)(h2:WForm false s2){q:Rat} :
  Value.agg #[.bool n1,.string s1,.bool false,.string s2]=encF q↔q.num=sgn n1 (numS s1)∧(q.den:Int)=sgn false (numS s2):=by
 constructor
 ·intro h
  obtain⟨a,b,c,d⟩:=encF_parts h
  refine⟨?_,?_⟩
  ·rw[a,b,numS_strN,sgn_self]
  ·rw[d,numS_strN]; rfl
 ·rintro⟨a,b⟩
  have e1:=h1.enc
  have e2:=h2.enc
  rw[←a] at e1
  rw[←b] at e2
  unfold encZ at e1 e2
  simp only[Value.agg.injEq,Array.mk.injEq,List.cons.injEq,Value.bool.injEq,Value.string.injEq,and_true] at e1 e2
  unfold encF
  rw[←e1.1,←e1.2,e2.2]
  simp
open Classical in
noncomputable def formB(neg:Bool)(s:ByteArray):Bool:=decide (WForm neg s)
theorem formB_iff{neg:Bool}{s:ByteArray}:formB neg s=true↔WForm neg s:=by unfold formB; simp
def MayR(v:Value)(base:Nat)(u:Value)(w:World)(A:Nat→Prop):Prop:=(¬FracOk v∧u=.pointer none)∨∃ q,v=encF q∧FracOk v∧RatM base q u w A
set_option maxRecDepth 100000 in
theorem ERat_any(n1 n2:Bool)(s1 s2:ByteArray)(h1:s1.size<274877906944)(h2:s2.size<274877906944)(w:World) :
  Calls Tryz.prog 143 #[.agg #[.bool n1,.string s1,.bool n2,.string s2]] w fun e w'=>∃ u,e=.returned u∧MayR (.agg #[.bool n1,.string s1,.bool n2,.string s2]) w.heap.size u w' NoA∧Below w.heap.size w w':=by
 have HF:=Lib.hid (fun(w':World) (h:¬FracOk (.agg #[.bool n1,.string s1,.bool n2,.string s2]))=>show MayR (.agg #[.bool n1,.string s1,.bool n2,.string s2]) w.heap.size (.pointer none) w' NoA from .inl ⟨h,rfl⟩)
 have HAL:=Lib.hid (show Below w.heap.size w (w.alloc (.cells #[.bool n1,.string s1,.bool n2,.string s2] 25)) from br.alloc (Nat.le_refl _) _)
 have HP:=Lib.hid (fun(h:FracOk (.agg #[.bool n1,.string s1,.bool n2,.string s2]))=>show WForm n1 s1∧WForm n2 s2∧s1.size≤1024∧s2.size≤1024∧n2=false∧0<s2.size by
  obtain⟨q,e,k1,k2⟩:=h
  obtain⟨rfl,rfl,rfl,rfl⟩:=encF_parts e
  refine⟨(okW_strN _ (by omega)).1,?_,k1,k2,rfl,?_⟩
  ·have:=(okW_strN (q.den:Int) (by simp; omega)).1
   rw[show decide ((q.den:Int)<0)=false by simp] at this
   simpa using this
  ·rcases Nat.eq_zero_or_pos (strN q.den).size with h0|h0
   ·have:=(numS_zero (noLead_strN q.den)).2 h0
    rw[numS_strN] at this
    exact absurd this q.den_nz
   ·exact h0)
 have HK:=Lib.hid (fun n s w=>formed_any n s (formB n s) formB_iff w)
 go_enter Tryz.func143,Tryz.ntmps143
 go_wp2_with fail
 refine(HK.out n1 s1 _).mono ?_
 rintro e w1 ⟨rfl,hb1⟩
 obtain⟨e0,e1,e2,e3,_⟩:=new_four w _ _ _ _ _ hb1
 cases c1:formB n1 s1
 ·go_wp2
  go_ret
  exact⟨_,rfl,HF.out _ (fun hk=>by have:=formB_iff.2 (HP.out hk).1; rw[c1] at this; cases this),HAL.out.trans (hb1.mono (by simp))⟩
 ·go_wp2_with fail
  refine(HK.out n2 s2 _).mono ?_
  rintro e w2 ⟨rfl,hb2⟩
  have hb12:=hb1.trans (hb2.mono hb1.size)
  clear e0 e1 e2 e3
  obtain⟨e0,e1,e2,e3,_⟩:=new_four w _ _ _ _ _ hb12
  cases c2:formB n2 s2
  ·go_wp2
   go_ret
   exact⟨_,rfl,HF.out _ (fun hk=>by have:=formB_iff.2 (HP.out hk).2.1; rw[c2] at this; cases this),HAL.out.trans (hb12.mono (by simp))⟩
  ·cases n2
   ·rcases Nat.eq_zero_or_pos s2.size with h0|h0
    ·have h00:=size_nil h0
     subst h00
     go_wp2
     all_goals go_ret
     all_goals exact⟨_,rfl,HF.out _ (fun hk=>by have:=(HP.out hk).2.2.2.2.2; exact absurd this (by decide)),HAL.out.trans (hb12.mono (by simp))⟩
    ·have hne:s2.toList.isEmpty=false:=by
      have h2:s2.toList.length=s2.size:=by rw[ByteArray.toList_eq]; simp
      cases h:s2.toList
      ·rw[h] at h2; simp at h2; omega
      ·rfl
     by_cases c3:(1024:Int)<(s1.size:Int)
     ·go_wp2
      all_goals go_ret
      all_goals exact⟨_,rfl,HF.out _ (fun hk=>by have:=(HP.out hk).2.2.1; omega),HAL.out.trans (hb12.mono (by simp))⟩
     ·by_cases c4:(1024:Int)<(s2.size:Int)
      ·go_wp2
       all_goals go_ret
       all_goals exact⟨_,rfl,HF.out _ (fun hk=>by have:=(HP.out hk).2.2.2.1; omega),HAL.out.trans (hb12.mono (by simp))⟩
      ·have hlt:w.heap.size<w2.heap.size:=by have:=hb12.size; simp at this; omega
       have HQ:=Lib.hid (And.intro (formB_iff.1 c1) (And.intro (formB_iff.1 c2) (And.intro h0 (HAL.out.trans (hb12.mono (by simp))))))
       clear c1 c2 hb1 hb2 hb12 HAL HK HP
       go_wp2_with fail
       obtain⟨zn,hzn⟩:∃ zn,zn=sgn n1 (numS s1):=⟨_,rfl⟩
       obtain⟨zd,hzd⟩:∃ zd,zd=sgn false (numS s2):=⟨_,rfl⟩
       have hN1:=fun w=>ewhole_any n1 s1 h1 w
       have hN2:=fun w=>ewhole_any false s2 h2 w
       rw[←hzn] at hN1
       rw[←hzd] at hN2
       have hd0:zd≠0:=fun h=>by
        have h3:numS s2=0:=by rw[hzd] at h; unfold sgn at h; simpa using h
        have:=(numS_zero HQ.out.2.1.2).1 h3
        omega
       have l1:(words zn.natAbs).length≤1024:=by rw[hzn,natAbs_sgn]; exact Nat.le_trans (wl_size rfl) (by omega)
       have l2:(words zd.natAbs).length≤1024:=by rw[hzd,natAbs_sgn]; exact Nat.le_trans (wl_size rfl) (by omega)
       have HI:=Lib.hid (fun q=>fracOk_parts HQ.out.1 HQ.out.2.1 (q:=q))
       have HZ:=Lib.hid (And.intro hzn hzd)
       have hsz:s1.size≤1024∧s2.size≤1024:=by omega
       rw[←hzn,←hzd] at HI
       have HG:=Lib.hid (And.intro hN1 (And.intro hN2 (And.intro hd0 (And.intro l1 (And.intro l2 hsz)))))
       have hBw:=HQ.out.2.2.2
       clear hN1 hN2 hzn hzd hd0 l1 l2 hsz HQ
       refine wp_region_inv [(.lit,[]),(.lit,[]),(.val,[]),(.lit,[]),(.lit,[]),(.val,[])]
        (pickF [(2,IntP zn),(5,IntP zd)]) (by kernel_rfl) ?_ ?_ (by simp) (by simp) (by kernel_rfl)
       ·exact keeps_pick (by simp[IntP.keeps])
       ·repeat (refine⟨_,fun f w1 h1=>by(have d0:=ct h1 hlt e0; have d1:=ct h1 hlt e1; have d2:=ct h1 hlt e2; have d3:=ct h1 hlt e3; go_simp; rfl),?_⟩)
        simp only[Act.put,nrA,nrB,nrC,Nat.reduceAdd]
        refine⟨fun f w1 A1 k1 hA hN hd K hK=>by
         go_simp
         refine(HG.out.1 w1).mono ?_
         rintro e w' ⟨v,rfl,hn⟩
         exact hK _ _ hn.1 (hn.2 A1 hA),?_⟩
        repeat (refine⟨_,fun f w1 h1=>by(have d0:=ct h1 hlt e0; have d1:=ct h1 hlt e1; have d2:=ct h1 hlt e2; have d3:=ct h1 hlt e3; go_simp; rfl),?_⟩)
        simp only[Act.put,nrA,nrB,nrC,Nat.reduceAdd]
        refine⟨fun f w1 A1 k1 hA hN hd K hK=>by
         go_simp
         refine(HG.out.2.1 w1).mono ?_
         rintro e w' ⟨v,rfl,hn⟩
         exact hK _ _ hn.1 (hn.2 A1 hA),?_⟩
        intro f w3 k3 hF
        have i1:IntP zn (f 2) w3 NoA:=hF.1.2
        have i2:IntP zd (f 5) w3 NoA:=hF.2
        clear hF
        simp only[Act.put,nrA,nrB,nrC]
        generalize f 2=vn at *
        generalize f 5=vd at *
        have hb3:Below w.heap.size w w3:=hBw.trans ((br.drew.trans k3).mono hBw.size)
        clear e0 e1 e2 e3 hlt hBw k3
        have hal:=(Below.refl w3.heap.size w3).alloc (Nat.le_refl _) zR
        have HS:=Lib.hid (SetFrac_any w3.heap.size _ zn zd HG.out.2.2.1 vn vd NoA (w3.alloc zR) (heap_alloc_new w3 _) (by decide) noW_zRat (i1.below hal) (i2.below hal) (by have:=HG.out.2.2.2.1; omega) (by have:=HG.out.2.2.2.2.1; omega))
        have HJ:=Lib.hid (And.intro i1 (And.intro i2 hb3))
        clear i1 i2 hb3 hal
        go_wp2_with fail
        refine HS.out.mono ?_
        rintro e w4 ⟨rfl,hp4⟩
        obtain⟨q,hq⟩:∃ q,q=Rat.divInt zn zd:=⟨_,rfl⟩
        rw[←hq] at hp4
        have hr4:=(hp4.ratP (rcv_noA _)).noA
        have hb34:Below w3.heap.size w3 w4:=below_of_alloc hp4.1
        have hql:RL q 1024:=by rw[hq]; exact RL_divInt HG.out.2.2.1 HG.out.2.2.2.1 HG.out.2.2.2.2.1
        have HI2:=Lib.hid (fun q' (h:Value.agg #[.bool n1,.string s1,.bool false,.string s2]=encF q')=>show q'=q by rw[hq,HZ.out.1,HZ.out.2]; exact(encF_divInt h).symm)
        have HN:=Lib.hid (Num_any q _ NoA w4 hr4 (hql.mono (by decide)))
        have HR4:=Lib.hid (And.intro hr4 (And.intro hb34 hql))
        clear HS hq hp4 hr4 hb34 hql
        go_wp2_with fail
        refine HN.out.mono ?_
        rintro e w5 ⟨v5,rfl,hn5⟩
        have HC:=Lib.hid (Cmp_any q.num zn v5 vn NoA w5 (hn5.2 NoA (rcv_noA _)) ((HJ.out.1.below HR4.out.2.1).below hn5.1) (by have:=HR4.out.2.2.1; omega) (by have:=HG.out.2.2.2.1; omega))
        go_wp2_with fail
        refine HC.out.mono ?_
        rintro e w6 ⟨rfl,hb6⟩
        have hb46:Below w4.heap.size w4 w6:=hn5.1.trans (hb6.mono hn5.1.size)
        clear HN HC hn5 hb6
        by_cases c5:cmpI q.num zn=0
        ·have HD:=Lib.hid (Denom_any q _ NoA w6 (HR4.out.1.below hb46) (HR4.out.2.2.mono (by decide)))
         rw[c5]
         go_wp2_with fail
         refine HD.out.mono ?_
         rintro e w7 ⟨v7,rfl,hn7⟩
         have hb47:=hb46.trans (hn7.1.mono hb46.size)
         have HC:=Lib.hid (Cmp_any q.den zd v7 vd NoA w7 (hn7.2 NoA (rcv_noA _)) ((HJ.out.2.1.below HR4.out.2.1).below hb47) (by have:=HR4.out.2.2.2; simp; omega) (by have:=HG.out.2.2.2.2.1; omega))
         go_wp2_with fail
         refine HC.out.mono ?_
         rintro e w8 ⟨rfl,hb8⟩
         have hb48:=hb47.trans (hb8.mono hb47.size)
         clear HD HC hn7 hb8 hb47
         by_cases c6:cmpI q.den zd=0
         ·rw[c6]
          go_wp2
          go_ret
          have he:=(HI.out q).2 ⟨cmpI_zero.1 c5,cmpI_zero.1 c6⟩
          obtain⟨_,a,_,b⟩:=encF_parts he
          refine⟨_,rfl,.inr ⟨q,he,⟨q,he,?_,?_⟩,w3.heap.size,rfl,HJ.out.2.2.size,HR4.out.1.below hb48⟩,HJ.out.2.2.trans ((HR4.out.2.1.trans (hb48.mono HR4.out.2.1.size)).mono HJ.out.2.2.size)⟩
          ·rw[←a]; exact HG.out.2.2.2.2.2.1
          ·rw[←b]; exact HG.out.2.2.2.2.2.2
         ·have hc6:(cmpI q.den zd != 0)=true:=by simpa using c6
          go_wp2
          all_goals go_ret
          all_goals exact⟨_,rfl,HF.out _ (fun hk=>by
           obtain⟨q',hq',_⟩:=hk
           have:=HI2.out q' hq'
           subst this
           exact c6 (cmpI_zero.2 ((HI.out q').1 hq').2)),HJ.out.2.2.trans ((HR4.out.2.1.trans (hb48.mono HR4.out.2.1.size)).mono HJ.out.2.2.size)⟩
        ·have hc5:(cmpI q.num zn != 0)=true:=by simpa using c5
         go_wp2
         all_goals go_ret
         all_goals exact⟨_,rfl,HF.out _ (fun hk=>by
          obtain⟨q',hq',_⟩:=hk
          have:=HI2.out q' hq'
          subst this
          exact c5 (cmpI_zero.2 ((HI.out q').1 hq').1)),HJ.out.2.2.trans ((HR4.out.2.1.trans (hb46.mono HR4.out.2.1.size)).mono HJ.out.2.2.size)⟩
   ·go_wp2
    all_goals go_ret
    all_goals exact⟨_,rfl,HF.out _ (fun hk=>by have:=(HP.out hk).2.2.2.2.1; cases this),HAL.out.trans (hb12.mono (by simp))⟩
end Go.Proofs.YtgjkifdilflcbaaGreat
