/- Laws for the walk. -/
import Derived.Test.YthklnbaddobieaaGreatVba
set_option linter.unusedVariables false
set_option maxHeartbeats 4000000
namespace Tr
open Go Go.RowKit Go.Proofs.YthklnbaddobieaaGreat
theorem RL.wn{q:Rat}{k:Nat}(h:RL q k):WL q.num.natAbs k:=h.1
theorem RL.wd{q:Rat}{k:Nat}(h:RL q k):WL q.den k:=h.2
end Tr
namespace Go.Proofs.YthklnbaddobieaaGreat
open Go.RowKit Tr
def encN(n:Nat):Value:=.agg #[.bool false,.string (strN n)]
theorem encZ_nat(n:Nat):encZ (n:Int)=encN n:=by
 unfold encZ encN
 simp
def cF(q:Rat):List GF:=[gx (.bool (decide (q.num<0))),gx (.string (strN q.num.natAbs)),gx (.string (strN q.den))]
theorem WL.i{n k:Nat}(h:WL n k):WL (n:Int).natAbs k:=by rw[Int.natAbs_natCast]; exact h
theorem WL.mul{x y:Int}{j k:Nat}(hx:WL x.natAbs j)(hy:WL y.natAbs k):WL (x*y).natAbs (j+k):=by rw[Int.natAbs_mul]; exact wl_mul hx hy
theorem WL.add{x y:Int}{k:Nat}(hx:WL x.natAbs k)(hy:WL y.natAbs k):WL (x+y).natAbs (k+1):=wl_mono (Int.natAbs_add_le x y) (wl_add hx hy)
theorem WL.neg{x:Int}{k:Nat}(hx:WL x.natAbs k):WL (-x).natAbs k:=by rw[Int.natAbs_neg]; exact hx
theorem divInt_quo{a b:Int}(hb:b≠0)(g:Int)(hg:g=if b<0 then -(Nat.gcd a.natAbs b.natAbs:Int) else(Nat.gcd a.natAbs b.natAbs:Int)):a / g=(Rat.divInt a b).num∧b / g=((Rat.divInt a b).den:Int):=by
 obtain⟨h1,h2⟩:=divInt_parts hb g hg
 have hd:∀ z:Int,((Nat.gcd a.natAbs b.natAbs:Nat):Int) ∣ z→g ∣ z:=fun z h=>by
  rw[hg]; split
  ·exact Int.neg_dvd.2 h
  ·exact h
 rw[h1,h2]
 exact⟨(Int.tdiv_eq_ediv_of_dvd (hd a (Int.ofNat_dvd_left.2 (Nat.gcd_dvd_left _ _)))).symm,(Int.tdiv_eq_ediv_of_dvd (hd b (Int.ofNat_dvd_left.2 (Nat.gcd_dvd_right _ _)))).symm⟩
theorem fof_pos(a b:Int)(hb1:0<b)(ha:WL a.natAbs 536870912)(hb:WL b.natAbs 536870912):PureC Tryz.prog 78 [encZ (a),encZ (b)] ((encF (Rat.divInt a b))):=by
  have hb0:b≠0:=by omega
  have hg0:0<Nat.gcd a.natAbs b.natAbs:=Nat.gcd_pos_of_pos_right _ (by omega)
  have hgl:WL (Nat.gcd a.natAbs b.natAbs) 536870912:=wl_mono (Nat.gcd_le_right _ (by omega)) hb
  obtain⟨e1,e2⟩:=divInt_quo (a:=a) (b:=b) hb0 _ rfl
  rw[if_neg (show ¬b<0 by omega)] at e1 e2
  have d1:=sdivmod a ((Nat.gcd a.natAbs b.natAbs:Nat):Int) (by omega) ha hgl.i
  have d2:=sdivmod b ((Nat.gcd a.natAbs b.natAbs:Nat):Int) (by omega) hb hgl.i
  rw[e1] at d1
  rw[e2,encZ_nat] at d2
  exact ev_pure (hp:=false) (L:=cz (a)++cz (b)++cz (((Nat.gcd a.natAbs b.natAbs:Nat):Int))++[gx (.int .i64 (b.sign))]++cz (a % ((Nat.gcd a.natAbs b.natAbs:Nat):Int))++cz (b % ((Nat.gcd a.natAbs b.natAbs:Nat):Int))++cF (Rat.divInt a b)) tys_ok mixed
    [gp 107 [.row [.sym 0,.sym 1],.row [.sym 2,.sym 3]] (.r (.row [.sym 4,.sym 5])) eo107 (sgcd a b ha hb) rfl rfl,gp 106 [.row [.sym 2,.sym 3]] (.r (.c (.sym 6))) eo106 (ssign b) rfl rfl,gp 143 [.row [.sym 0,.sym 1],.row [.sym 4,.sym 5]] (.tup [.row [.sym 11,.sym 12],.row [.sym 7,.sym 8]]) eo143 (d1) rfl rfl,gp 143 [.row [.sym 2,.sym 3],.row [.sym 4,.sym 5]] (.tup [.row [.lit (.bool false),.sym 13],.row [.sym 9,.sym 10]]) eo143 (d2) rfl rfl]
    [gbInt .lss 3 .i64 (.sym 6) (.lit (.int .i64 0)) b.sign 0 false (by rw[Int.sign_eq_one_of_pos hb1]; rfl) rfl rfl] []
    Tryz.func78 100 [.row [.sym 0,.sym 1],.row [.sym 2,.sym 3]] (.r (.row [.sym 11,.sym 12,.lit (.bool false),.sym 13])) (by kernel_rfl) rfl rfl
theorem fof_neg(a b:Int)(hb1:b<0)(ha:WL a.natAbs 536870912)(hb:WL b.natAbs 536870912):PureC Tryz.prog 78 [encZ (a),encZ (b)] ((encF (Rat.divInt a b))):=by
  have hb0:b≠0:=by omega
  have hg0:0<Nat.gcd a.natAbs b.natAbs:=Nat.gcd_pos_of_pos_right _ (by omega)
  have hgl:WL (Nat.gcd a.natAbs b.natAbs) 536870912:=wl_mono (Nat.gcd_le_right _ (by omega)) hb
  obtain⟨e1,e2⟩:=divInt_quo (a:=a) (b:=b) hb0 _ rfl
  rw[if_pos (show b<0 by omega)] at e1 e2
  have d1:=sdivmod a (-((Nat.gcd a.natAbs b.natAbs:Nat):Int)) (by omega) ha hgl.i.neg
  have d2:=sdivmod b (-((Nat.gcd a.natAbs b.natAbs:Nat):Int)) (by omega) hb hgl.i.neg
  rw[e1] at d1
  rw[e2,encZ_nat] at d2
  exact ev_pure (hp:=false) (L:=cz (a)++cz (b)++cz (((Nat.gcd a.natAbs b.natAbs:Nat):Int))++[gx (.int .i64 (b.sign))]++cz (-((Nat.gcd a.natAbs b.natAbs:Nat):Int))++cz (a % -((Nat.gcd a.natAbs b.natAbs:Nat):Int))++cz (b % -((Nat.gcd a.natAbs b.natAbs:Nat):Int))++cF (Rat.divInt a b)) tys_ok mixed
    [gp 107 [.row [.sym 0,.sym 1],.row [.sym 2,.sym 3]] (.r (.row [.sym 4,.sym 5])) eo107 (sgcd a b ha hb) rfl rfl,gp 106 [.row [.sym 2,.sym 3]] (.r (.c (.sym 6))) eo106 (ssign b) rfl rfl,gp 116 [.row [.sym 4,.sym 5]] (.r (.row [.sym 7,.sym 8])) eo116 (sneg _) rfl rfl,gp 143 [.row [.sym 0,.sym 1],.row [.sym 7,.sym 8]] (.tup [.row [.sym 13,.sym 14],.row [.sym 9,.sym 10]]) eo143 (d1) rfl rfl,gp 143 [.row [.sym 2,.sym 3],.row [.sym 7,.sym 8]] (.tup [.row [.lit (.bool false),.sym 15],.row [.sym 11,.sym 12]]) eo143 (d2) rfl rfl]
    [gbInt .lss 3 .i64 (.sym 6) (.lit (.int .i64 0)) b.sign 0 true (by rw[Int.sign_eq_neg_one_of_neg hb1]; rfl) rfl rfl] []
    Tryz.func78 100 [.row [.sym 0,.sym 1],.row [.sym 2,.sym 3]] (.r (.row [.sym 13,.sym 14,.lit (.bool false),.sym 15])) (by kernel_rfl) rfl rfl
theorem fof(a b:Int)(hb0:b≠0)(ha:WL a.natAbs 536870912)(hb:WL b.natAbs 536870912):PureC Tryz.prog 78 [encZ a,encZ b] (encF (Rat.divInt a b)):=by
 rcases(show b<0∨0<b by omega) with h|h
 ·exact fof_neg a b h ha hb
 ·exact fof_pos a b h ha hb
theorem stimes_zn(x:Int)(n:Nat)(hx:WL x.natAbs 1073741824)(hn:WL n 1073741824):PureC Tryz.prog 110 [encZ x,encN n] (encZ (x*(n:Int))):=by
 have:=stimes x n hx hn.i
 rwa[encZ_nat] at this
theorem stimes_nn(m n:Nat)(hm:WL m 1073741824)(hn:WL n 1073741824):PureC Tryz.prog 110 [encN m,encN n] (encZ ((m:Int)*(n:Int))):=by
 have:=stimes m n hm.i hn.i
 rwa[encZ_nat,encZ_nat] at this
theorem fplus(x y:Rat)(hx:RL x 134217728)(hy:RL y 134217728):PureC Tryz.prog 111 [encF (x),encF (y)] ((encF (x+y))):=by
  have ha:=WL.mul hx.wn hy.wd.i
  have hb:=WL.mul hy.wn hx.wd.i
  have hd:=WL.mul hx.wd.i hy.wd.i
  have ho:=fof (x.num*(y.den:Int)+y.num*(x.den:Int)) ((x.den:Int)*(y.den:Int)) (Int.mul_ne_zero den_ne den_ne) ((ha.add hb).mono (by decide)) (hd.mono (by decide))
  rw[add_divInt] at ho
  exact ev_pure (hp:=false) (L:=cF (x)++cF (y)++cz (x.num*(y.den:Int))++cz (y.num*(x.den:Int))++cz (x.num*(y.den:Int)+y.num*(x.den:Int))++cz ((x.den:Int)*(y.den:Int))++cF (x+y)) tys_ok mixed
    [gp 110 [.row [.sym 0,.sym 1],.row [.lit (.bool false),.sym 5]] (.r (.row [.sym 6,.sym 7])) eo110 (stimes_zn _ _ (hx.wn.mono (by decide)) (hy.wd.mono (by decide))) rfl rfl,gp 110 [.row [.sym 3,.sym 4],.row [.lit (.bool false),.sym 2]] (.r (.row [.sym 8,.sym 9])) eo110 (stimes_zn _ _ (hy.wn.mono (by decide)) (hx.wd.mono (by decide))) rfl rfl,gp 173 [.row [.sym 6,.sym 7],.row [.sym 8,.sym 9]] (.r (.row [.sym 10,.sym 11])) eo173 (splus _ _ (ha.mono (by decide)) (hb.mono (by decide))) rfl rfl,gp 110 [.row [.lit (.bool false),.sym 2],.row [.lit (.bool false),.sym 5]] (.r (.row [.sym 12,.sym 13])) eo110 (stimes_nn _ _ (hx.wd.mono (by decide)) (hy.wd.mono (by decide))) rfl rfl,gp 78 [.row [.sym 10,.sym 11],.row [.sym 12,.sym 13]] (.r (.row [.sym 14,.sym 15,.lit (.bool false),.sym 16])) eo78 (ho) rfl rfl]
    [] []
    Tryz.func111 100 [.row [.sym 0,.sym 1,.lit (.bool false),.sym 2],.row [.sym 3,.sym 4,.lit (.bool false),.sym 5]] (.r (.row [.sym 14,.sym 15,.lit (.bool false),.sym 16])) (by kernel_rfl) rfl rfl
theorem ftimes(x y:Rat)(hx:RL x 134217728)(hy:RL y 134217728):PureC Tryz.prog 114 [encF (x),encF (y)] ((encF (x*y))):=by
  have ho:=fof (x.num*y.num) ((x.den:Int)*(y.den:Int)) (Int.mul_ne_zero den_ne den_ne) ((WL.mul hx.wn hy.wn).mono (by decide)) ((WL.mul hx.wd.i hy.wd.i).mono (by decide))
  rw[mul_divInt] at ho
  exact ev_pure (hp:=false) (L:=cF (x)++cF (y)++cz (x.num*y.num)++cz ((x.den:Int)*(y.den:Int))++cF (x*y)) tys_ok mixed
    [gp 110 [.row [.sym 0,.sym 1],.row [.sym 3,.sym 4]] (.r (.row [.sym 6,.sym 7])) eo110 (stimes _ _ (hx.wn.mono (by decide)) (hy.wn.mono (by decide))) rfl rfl,gp 110 [.row [.lit (.bool false),.sym 2],.row [.lit (.bool false),.sym 5]] (.r (.row [.sym 8,.sym 9])) eo110 (stimes_nn _ _ (hx.wd.mono (by decide)) (hy.wd.mono (by decide))) rfl rfl,gp 78 [.row [.sym 6,.sym 7],.row [.sym 8,.sym 9]] (.r (.row [.sym 10,.sym 11,.lit (.bool false),.sym 12])) eo78 (ho) rfl rfl]
    [] []
    Tryz.func114 100 [.row [.sym 0,.sym 1,.lit (.bool false),.sym 2],.row [.sym 3,.sym 4,.lit (.bool false),.sym 5]] (.r (.row [.sym 10,.sym 11,.lit (.bool false),.sym 12])) (by kernel_rfl) rfl rfl
theorem fneg(x:Rat):PureC Tryz.prog 53 [encF x] (encF (-x)):=by
 have hn:=sneg x.num
 rw[←Rat.neg_num] at hn
 exact ev_pure (hp:=false) (L:=cF (x)++cz ((-x).num)) tys_ok mixed
  [gp 116 [.row [.sym 0,.sym 1]] (.r (.row [.sym 3,.sym 4])) eo116 (hn) rfl rfl]
  [] []
  Tryz.func53 100 [.row [.sym 0,.sym 1,.lit (.bool false),.sym 2]] (.r (.row [.sym 3,.sym 4,.lit (.bool false),.sym 2])) (by kernel_rfl) rfl rfl
theorem fminus(x y:Rat)(hx:RL x 134217728)(hy:RL y 134217728):PureC Tryz.prog 47 [encF (x),encF (y)] ((encF (x - y))):=by
  have hp:=fplus x (-y) hx (RL_neg hy)
  rw[←Rat.sub_eq_add_neg] at hp
  exact ev_pure (hp:=false) (L:=cF (x)++cF (y)++cF (-y)++cF (x - y)) tys_ok mixed
    [gp 53 [.row [.sym 3,.sym 4,.lit (.bool false),.sym 5]] (.r (.row [.sym 6,.sym 7,.lit (.bool false),.sym 8])) eo53 (fneg y) rfl rfl,gp 111 [.row [.sym 0,.sym 1,.lit (.bool false),.sym 2],.row [.sym 6,.sym 7,.lit (.bool false),.sym 8]] (.r (.row [.sym 9,.sym 10,.lit (.bool false),.sym 11])) eo111 (hp) rfl rfl]
    [] []
    Tryz.func47 100 [.row [.sym 0,.sym 1,.lit (.bool false),.sym 2],.row [.sym 3,.sym 4,.lit (.bool false),.sym 5]] (.r (.row [.sym 9,.sym 10,.lit (.bool false),.sym 11])) (by kernel_rfl) rfl rfl
theorem fsign(x:Rat):PureC Tryz.prog 52 [encF (x)] ((.int .i64 (x.num.sign))):=by
 exact ev_pure (hp:=false) (L:=cF (x)++[gx (.int .i64 (x.num.sign))]) tys_ok mixed
  [gp 106 [.row [.sym 0,.sym 1]] (.r (.c (.sym 3))) eo106 (ssign _) rfl rfl]
  [] []
  Tryz.func52 100 [.row [.sym 0,.sym 1,.lit (.bool false),.sym 2]] (.r (.c (.sym 3))) (by kernel_rfl) rfl rfl
theorem fint(n:Int)(h1:-9223372036854775808≤n)(h2:n<9223372036854775808):PureC Tryz.prog 115 [.int .i64 (n)] ((encF ((n:Rat)))):=by
  have h:=sof 1 (by decide) (by decide)
  rw[show(1:Int)=((1:Nat):Int) from rfl,encZ_nat] at h
  exact ev_pure (hp:=false) (L:=[gx (.int .i64 (n))]++cF ((n:Rat))) tys_ok mixed
    [gp 79 [.c (.sym 0)] (.r (.row [.sym 1,.sym 2])) eo79 (sof n h1 h2) rfl rfl,gp 79 [.c (.lit (.int .i64 1))] (.r (.row [.lit (.bool false),.sym 3])) eo79 (h) rfl rfl]
    [] []
    Tryz.func115 100 [.c (.sym 0)] (.r (.row [.sym 1,.sym 2,.lit (.bool false),.sym 3])) (by kernel_rfl) rfl rfl
end Go.Proofs.YthklnbaddobieaaGreat
namespace Go.Proofs.YthklnbaddobieaaGreat
open Go.RowKit Tr
theorem size_nil{s:ByteArray}(h:s.size=0):s=⟨#[]⟩:=by
 apply ByteArray.ext
 apply Array.eq_empty_of_size_eq_zero
 exact h
set_option maxRecDepth 100000 in
theorem check_nil(neg:Bool)(w:World) :
  Calls Tryz.prog 57 #[.agg #[.bool neg,.string ⟨#[]⟩]] w fun e w'=>e=.returned (.int .i64 (if neg then 2 else 0))∧Below w.heap.size w w':=by
 cases neg
 ·go_enter Tryz.func57,Tryz.ntmps57
  go_wp2
  go_ret
  exact⟨rfl,br.alloc (Nat.le_refl _) _⟩
 ·go_enter Tryz.func57,Tryz.ntmps57
  go_wp2
  go_ret
  exact⟨rfl,br.alloc (Nat.le_refl _) _⟩
set_option maxRecDepth 100000 in
theorem check_some(neg:Bool)(s:ByteArray)(hs:0<s.size)(r:Int)(hr:r=if s[0].toNat=0∨16384<s.size then 2 else 0)(w:World) :
  Calls Tryz.prog 57 #[.agg #[.bool neg,.string s]] w fun e w'=>e=.returned (.int .i64 r)∧Below w.heap.size w w':=by
 have hne:¬s.toList=[]:=fun h=>by
  have h2:s.toList.length=s.size:=by rw[ByteArray.toList_eq]; simp
  rw[h] at h2; simp at h2; omega
 have hne2:(!s.toList.isEmpty)=true:=by simpa using hne
 by_cases hx:s[0].toNat=0
 ·rw[if_pos (.inl hx)] at hr
  subst hr
  have hb:(((s[0].toNat:Nat):Int) == 0)=true:=by rw[hx]; rfl
  go_enter Tryz.func57,Tryz.ntmps57
  go_wp2
  all_goals go_ret
  all_goals exact⟨rfl,br.alloc (Nat.le_refl _) _⟩
 ·have hb:(((s[0].toNat:Nat):Int) == 0)=false:=by simpa using hx
  by_cases hl:16384<s.size
  ·rw[if_pos (.inr hl)] at hr
   subst hr
   have hl2:(16384:Int)<(s.size:Int):=by omega
   go_enter Tryz.func57,Tryz.ntmps57
   go_wp2
   all_goals go_ret
   all_goals exact⟨rfl,br.alloc (Nat.le_refl _) _⟩
  ·rw[if_neg (by omega)] at hr
   subst hr
   have hl2:¬(16384:Int)<(s.size:Int):=by omega
   go_enter Tryz.func57,Tryz.ntmps57
   go_wp2
   all_goals go_ret
   all_goals exact⟨rfl,br.alloc (Nat.le_refl _) _⟩
def OkW(neg:Bool)(s:ByteArray):Prop:=WForm neg s∧s.size≤16384
theorem noLead_nil:NoLead ⟨#[]⟩:=fun x l h=>by simp at h
theorem lead_head{s:ByteArray}(hs:0<s.size):NoLead s↔s[0].toNat≠0:=by
  have e:s.data.toList=s[0] :: s.data.toList.tail:=by
    cases h:s.data.toList with
    | nil => have : s.data.toList.length = s.size := by simp
             rw[h] at this; simp at this; omega
    | cons x l =>
      have h0:s.data[0]?=some x:=by rw[←Array.getElem?_toList,h]; rfl
      have h1:s[0]=x:=by
        have h2:s.data[0]?=some s[0]:=Array.getElem?_eq_getElem hs
        rw[h2] at h0; simpa using h0
      rw[h1]; rfl
  constructor
  · intro h hx
    exact h _ _ e (UInt8.toNat_inj.1 hx)
  · intro h x l hl hx
    rw[e] at hl
    simp at hl
    rw[←hl.1] at hx
    exact h (by rw[hx]; rfl)
theorem check_ok{neg:Bool}{s:ByteArray}(h:OkW neg s)(w:World):Calls Tryz.prog 57 #[.agg #[.bool neg,.string s]] w fun e w'=>e=.returned (.int .i64 0)∧Below w.heap.size w w':=by
 rcases Nat.eq_zero_or_pos s.size with h0|h0
 ·have:=h.1.1 h0
  subst this
  rw[size_nil h0]
  exact check_nil false w
 ·exact check_some neg s h0 0 (by rw[if_neg]; have:=(lead_head h0).1 h.1.2; have:=h.2; omega) w
theorem check_bad{neg:Bool}{s:ByteArray}(h:¬OkW neg s)(w:World):Calls Tryz.prog 57 #[.agg #[.bool neg,.string s]] w fun e w'=>e=.returned (.int .i64 2)∧Below w.heap.size w w':=by
 rcases Nat.eq_zero_or_pos s.size with h0|h0
 ·have hs:=size_nil h0
  subst hs
  cases neg
  ·exact absurd ⟨⟨fun _=>rfl,noLead_nil⟩,by decide⟩ h
  ·exact check_nil true w
 ·refine check_some neg s h0 2 ?_ w
  rw[if_pos]
  by_cases h1:s[0].toNat=0
  ·exact .inl h1
  ·right
   rcases Nat.lt_or_ge 16384 s.size with h2|h2
   ·exact h2
   ·exact absurd ⟨⟨fun h3=>by omega,(lead_head h0).2 h1⟩,h2⟩ h
set_option maxRecDepth 100000 in
theorem wsign_ok{neg:Bool}{s:ByteArray}(h:OkW neg s)(w:World):Calls Tryz.prog 59 #[.agg #[.bool neg,.string s]] w fun e w'=>e=.returned (.int .i64 (sgn neg (numS s)).sign)∧Below w.heap.size w w':=by
 have HC:=Lib.hid (fun w=>check_ok h w)
 obtain⟨r,hr⟩:∃ r,r=(sgn neg (numS s)).sign:=⟨_,rfl⟩
 rw[←hr]
 have HR:=Lib.hid (And.intro hr h)
 clear hr h
 have arm:∀(w1:World),Below (w.alloc (.cells #[.bool neg,.string s] 23)).heap.size (w.alloc (.cells #[.bool neg,.string s] 23)) w1→w1.cell? ⟨w.heap.size,0,none⟩=some (.bool neg)∧w1.cell? ⟨w.heap.size,1,none⟩=some (.string s)∧Below w.heap.size w w1:=fun w1 hb=>by
  obtain⟨e0,e1,_⟩:=new_two w _ _ _ hb
  exact⟨e0,e1,(br.alloc (Nat.le_refl _) _).trans (hb.mono (by simp))⟩
 have HA:=Lib.hid arm
 clear arm
 rcases Nat.eq_zero_or_pos s.size with h0|h0
 ·obtain rfl:neg=false:=HR.out.2.1.1 h0
  obtain rfl:=size_nil h0
  have h1:r=0:=by rw[HR.out.1,(numS_zero noLead_nil).2 rfl]; rfl
  subst h1
  clear h0
  go_enter Tryz.func59,Tryz.ntmps59
  go_wp2_with (go_at_call 57; refine(HC.out _).mono ?_; rintro e w1 ⟨rfl,hb⟩; obtain⟨e0,e1,hbw⟩:=HA.out w1 hb; clear hb)
  go_ret
  exact⟨rfl,hbw⟩
 ·have hne:¬s.toList=[]:=fun h=>by
   have h2:s.toList.length=s.size:=by rw[ByteArray.toList_eq]; simp
   rw[h] at h2; simp at h2; omega
  have hne2:(!s.toList.isEmpty)=true:=by simpa using hne
  have hn0:numS s≠0:=fun h=>by have:=(numS_zero HR.out.2.1.2).1 h; omega
  cases neg
  ·have h1:r=1:=by rw[HR.out.1]; unfold sgn; exact Int.sign_eq_one_of_pos (by simp; omega)
   subst h1
   clear hn0
   go_enter Tryz.func59,Tryz.ntmps59
   go_wp2_with (go_at_call 57; refine(HC.out _).mono ?_; rintro e w1 ⟨rfl,hb⟩; obtain⟨e0,e1,hbw⟩:=HA.out w1 hb; clear hb)
   go_ret
   exact⟨rfl,hbw⟩
  ·have h1:r=-1:=by rw[HR.out.1]; unfold sgn; exact Int.sign_eq_neg_one_of_neg (by simp; omega)
   subst h1
   clear hn0
   go_enter Tryz.func59,Tryz.ntmps59
   go_wp2_with (go_at_call 57; refine(HC.out _).mono ?_; rintro e w1 ⟨rfl,hb⟩; obtain⟨e0,e1,hbw⟩:=HA.out w1 hb; clear hb)
   go_ret
   exact⟨rfl,hbw⟩
set_option maxRecDepth 100000 in
theorem short_ok(neg:Bool)(s:ByteArray)(b:Bool)(hb:b=decide ((s.size:Int)≤1024))(w:World):Calls Tryz.prog 58 #[.agg #[.bool neg,.string s]] w fun e w'=>e=.returned (.bool b)∧Below w.heap.size w w':=by
 subst hb
 go_enter Tryz.func58,Tryz.ntmps58
 go_wp2
 go_ret
 exact⟨rfl,br.alloc (Nat.le_refl _) _⟩
end Go.Proofs.YthklnbaddobieaaGreat
namespace Go.Proofs.YthklnbaddobieaaGreat
open Go.RowKit Tr
def FracOk(v:Value):Prop:=∃ q:Rat,v=encF q∧(strN q.num.natAbs).size≤1024∧(strN q.den).size≤1024
open Classical in
noncomputable def chkR(neg:Bool)(s:ByteArray):Int:=if OkW neg s then 0 else 2
theorem chkR_any(neg:Bool)(s:ByteArray)(w:World):Calls Tryz.prog 57 #[.agg #[.bool neg,.string s]] w fun e w'=>e=.returned (.int .i64 (chkR neg s))∧Below w.heap.size w w':=by
 unfold chkR
 split
 ·rename_i h; exact check_ok h w
 ·rename_i h; exact check_bad h w
theorem chkR_zero{neg:Bool}{s:ByteArray}:chkR neg s=0↔OkW neg s:=by unfold chkR; split<;>simp[*]
theorem okW_strN(z:Int)(h:(strN z.natAbs).size≤16384):OkW (decide (z<0)) (strN z.natAbs):=by
 refine⟨⟨fun h0=>?_,noLead_strN _⟩,h⟩
 have:z.natAbs=0:=by
  have:=(numS_zero (noLead_strN z.natAbs)).2 h0
  rwa[numS_strN] at this
 have:z=0:=by omega
 subst this; rfl
theorem encF_parts{q:Rat}{n1 n2:Bool}{s1 s2:ByteArray}(h:Value.agg #[.bool n1,.string s1,.bool n2,.string s2]=encF q):n1=decide (q.num<0)∧s1=strN q.num.natAbs∧n2=false∧s2=strN q.den:=by
 unfold encF at h
 simpa using h
theorem encF_divInt{q:Rat}{n1 n2:Bool}{s1 s2:ByteArray}(h:Value.agg #[.bool n1,.string s1,.bool n2,.string s2]=encF q):Rat.divInt (sgn n1 (numS s1)) (sgn n2 (numS s2))=q:=by
 obtain⟨rfl,rfl,rfl,rfl⟩:=encF_parts h
 rw[numS_strN,numS_strN,sgn_self]
 show Rat.divInt q.num ((q.den:Nat):Int)=q
 exact Rat.num_divInt_den q
theorem toL_iff{a b:ByteArray}:a.toList=b.toList↔a=b:=by
 rw[ByteArray.toList_eq,ByteArray.toList_eq]
 constructor
 ·intro h; cases a; cases b; simp_all
 ·rintro rfl; rfl
theorem wl_size{n:Nat}{s:ByteArray}(h:numS s=n):(words n).length≤s.size:=by
 subst h
 exact words_length_le (Nat.lt_of_lt_of_le (numS_lt s) (Nat.pow_le_pow_left (by decide) _))
set_option maxRecDepth 100000 in
theorem May_free (n1 n2 : Bool) (s1 s2 : ByteArray) (r : Bool) (hr : r = true ↔ FracOk (.agg #[.bool n1,.string s1,.bool n2,.string s2])) (w : World) :
    Calls Tryz.prog 22 #[.agg #[.bool n1,.string s1,.bool n2,.string s2]] w fun e w'=>e=.returned (.bool r)∧Below w.heap.size w w':=by
  have HR:=Lib.hid hr
  have HK:=Lib.hid (fun neg s w=>chkR_any neg s w)
  clear hr
  have HF:=Lib.hid (fun(h:¬FracOk (.agg #[.bool n1,.string s1,.bool n2,.string s2]))=>show r=false by cases hr:r; rfl; exact absurd (HR.out.1 hr) h)
  have HAL:=Lib.hid (show Below w.heap.size w (w.alloc (.cells #[.bool n1,.string s1,.bool n2,.string s2] 25)) from br.alloc (Nat.le_refl _) _)
  -- what a fraction that may be says of the parts
  have HP:=Lib.hid (fun(h:FracOk (.agg #[.bool n1,.string s1,.bool n2,.string s2]))=>show OkW n1 s1∧OkW n2 s2∧s1.size≤1024∧s2.size≤1024∧n2=false∧0<s2.size by
    obtain⟨q,e,k1,k2⟩:=h
    obtain⟨rfl,rfl,rfl,rfl⟩:=encF_parts e
    refine⟨okW_strN _ (by omega),?_,k1,k2,rfl,?_⟩
    · have:=okW_strN (q.den:Int) (by simp; omega)
      rw[show decide ((q.den:Int)<0)=false by simp] at this
      simpa using this
    · rcases Nat.eq_zero_or_pos (strN q.den).size with h0|h0
      · have:=(numS_zero (noLead_strN q.den)).2 h0
        rw[numS_strN] at this
        exact absurd this q.den_nz
      · exact h0)
  go_enter Tryz.func22,Tryz.ntmps22
  go_wp2_with fail
  refine(HK.out n1 s1 _).mono ?_
  rintro e w1 ⟨rfl,hb1⟩
  obtain⟨e0,e1,e2,e3,_⟩:=new_four w _ _ _ _ _ hb1
  by_cases c1:chkR n1 s1=0
  · rw[c1]
    go_wp2_with fail
    refine(HK.out n2 s2 _).mono ?_
    rintro e w2 ⟨rfl,hb2⟩
    have hb12:=hb1.trans (hb2.mono hb1.size)
    clear e0 e1 e2 e3
    obtain⟨e0,e1,e2,e3,_⟩:=new_four w _ _ _ _ _ hb12
    by_cases c2:chkR n2 s2=0
    · rw[c2]
      have k1:=chkR_zero.1 c1
      have k2:=chkR_zero.1 c2
      obtain⟨b1,hb1'⟩:∃ b1,b1=decide ((s1.size:Int)≤1024):=⟨_,rfl⟩
      obtain⟨b2,hb2'⟩:∃ b2,b2=decide ((s2.size:Int)≤1024):=⟨_,rfl⟩
      have HB:=Lib.hid (And.intro hb1' hb2')
      clear hb1' hb2'
      go_wp2_with fail
      refine(short_ok n1 s1 b1 HB.out.1 _).mono ?_
      rintro e w3 ⟨rfl,hb3⟩
      have hb13:=hb12.trans (hb3.mono hb12.size)
      clear e0 e1 e2 e3
      obtain⟨e0,e1,e2,e3,_⟩:=new_four w _ _ _ _ _ hb13
      cases b1
      · go_wp2
        go_ret
        exact⟨by rw[HF.out (fun hk=>by have h1:=(HP.out hk).2.2.1; have h2:=HB.out.1; simp at h2; omega)]; rfl,HAL.out.trans (hb13.mono (by simp))⟩
      · go_wp2_with fail
        refine(short_ok n2 s2 b2 HB.out.2 _).mono ?_
        rintro e w4 ⟨rfl,hb4⟩
        have hb14:=hb13.trans (hb4.mono hb13.size)
        clear e0 e1 e2 e3
        obtain⟨e0,e1,e2,e3,_⟩:=new_four w _ _ _ _ _ hb14
        cases b2
        · go_wp2
          go_ret
          exact⟨by rw[HF.out (fun hk=>by have h1:=(HP.out hk).2.2.2.1; have h2:=HB.out.2; simp at h2; omega)]; rfl,HAL.out.trans (hb14.mono (by simp))⟩
        · obtain⟨sg,hsg⟩:∃ sg,sg=(sgn n2 (numS s2)).sign:=⟨_,rfl⟩
          have HS:=Lib.hid (fun w=>wsign_ok k2 w)
          rw[←hsg] at HS
          have HG:=Lib.hid hsg
          clear hsg
          go_wp2_with fail
          refine(HS.out _).mono ?_
          rintro e w5 ⟨rfl,hb5⟩
          have hb15:=hb14.trans (hb5.mono hb14.size)
          clear e0 e1 e2 e3
          obtain⟨e0,e1,e2,e3,_⟩:=new_four w _ _ _ _ _ hb15
          by_cases c3:sg≤0
          · go_wp2
            go_ret
            have hno:¬FracOk (.agg #[.bool n1,.string s1,.bool n2,.string s2]):=fun hk=>by
              obtain⟨_,_,_,_,h1,h2⟩:=HP.out hk
              subst h1
              have h3:numS s2≠0:=fun h=>by have:=(numS_zero k2.1.2).1 h; omega
              have h4:sg=1:=by rw[HG.out]; unfold sgn; exact Int.sign_eq_one_of_pos (by simp; omega)
              omega
            exact⟨by rw[HF.out hno]; rfl,HAL.out.trans (hb15.mono (by simp))⟩
          · have hn2 : n2 = false := by
              cases n2
              · rfl
              · exfalso
                apply c3
                rw[HG.out]; unfold sgn
                rcases Nat.eq_zero_or_pos (numS s2) with h|h
                · simp[h]
                · rw[Int.sign_eq_neg_one_of_neg (by simp; omega)]; decide
            have hd0:numS s2≠0:=fun h=>by
              apply c3
              rw[HG.out,h]; unfold sgn; simp
            have hBw:=HAL.out.trans (hb15.mono (by simp))
            have hlt:w.heap.size<w5.heap.size:=by have:=hb15.size; simp at this; omega
            have HQ:=Lib.hid (And.intro k1 (And.intro k2 (And.intro hd0 hBw)))
            clear HS HG hb1 hb2 hb3 hb4 hb5 hb12 hb13 hb14 hb15 k1 k2 hd0 hBw c1 c2
            subst hn2
            obtain⟨q,hq⟩:∃ q,q=Rat.divInt (sgn n1 (numS s1)) (sgn false (numS s2)):=⟨_,rfl⟩
            have HRat:=Lib.hid (fun w=>rat_any n1 false s1 s2 HQ.out.2.2.1 (by have:=HB.out.1; simp at this; omega) (by have:=HB.out.2; simp at this; omega) w)
            rw[←hq] at HRat
            have hql:RL q 137438953472:=by
              rw[hq]
              refine(RL_divInt (k:=1024) (by unfold sgn; simpa using HQ.out.2.2.1) ?_ ?_).mono (by decide)
              · rw[natAbs_sgn]; exact Nat.le_trans (wl_size rfl) (by have:=HB.out.1; simp at this; omega)
              · rw[natAbs_sgn]; exact Nat.le_trans (wl_size rfl) (by have:=HB.out.2; simp at this; omega)
            have hre:(r=true)↔Value.agg #[.bool n1,.string s1,.bool false,.string s2]=encF q:=by
              constructor
              · intro hr
                obtain⟨q',hq',_⟩:=HR.out.1 hr
                have:=encF_divInt hq'
                rw[←hq] at this
                rw[this]; exact hq'
              · intro he
                obtain⟨a1,a2,a3,a4⟩:=encF_parts he
                refine HR.out.2 ⟨q,he,?_,?_⟩
                · rw[←a2]; have:=HB.out.1; simp at this; omega
                · rw[←a4]; have:=HB.out.2; simp at this; omega
            obtain⟨bq,hbq⟩:∃ bq,bq=decide (q.num<0):=⟨_,rfl⟩
            obtain⟨t1,ht1⟩:∃ t1,t1=strN q.num.natAbs:=⟨_,rfl⟩
            obtain⟨t2,ht2⟩:∃ t2,t2=strN q.den:=⟨_,rfl⟩
            have heq:encF q=.agg #[.bool bq,.string t1,.bool false,.string t2]:=by rw[hbq,ht1,ht2]; rfl
            rw[heq] at hre
            have HRE:=Lib.hid (And.intro hre (And.intro hql heq))
            clear hq hbq ht1 ht2 heq hql hre HB HP
            go_wp2_with fail
            refine wp_region_inv [(.lit,[]),(.val,[]),(.val,[1]),(.lit,[])]
              (pickF [(1,RatP q),(2,fun v _ _=>v=.agg #[.bool bq,.string t1,.bool false,.string t2])]) (by kernel_rfl) ?_ ?_ (by simp) (by simp) (by kernel_rfl)
            · exact keeps_pick (by simp only[List.mem_cons,List.not_mem_nil,or_false]; rintro p (rfl|rfl); exact RatP.keeps q; exact fun _ _ _ _ _ _ _ h=>h)
            · refine⟨_,fun f w1 h1=>by(have d0:=ct h1 hlt e0; have d1:=ct h1 hlt e1; have d2:=ct h1 hlt e2; have d3:=ct h1 hlt e3; go_simp; rfl),?_⟩
              simp only[Act.put,nrA,nrB,nrC,Nat.reduceAdd]
              refine⟨fun f w1 A1 k1 hA hN hd K hK=>by
                go_simp
                refine(HRat.out w1).mono ?_
                rintro e w' ⟨v,rfl,hn⟩
                exact hK _ _ hn.1 (hn.2 A1 hA),?_⟩
              simp only[Act.put,nrA,nrB,nrC,Nat.reduceAdd]
              refine⟨fun f w1 A1 k1 hA hN hd K hK=>by
                have i1:RatP q (f 1) w1 A1:=hd 1 (by simp)
                go_simp
                refine(told_any q _ A1 w1 i1 HRE.out.2.1).mono ?_
                rintro e w' ⟨rfl,hb⟩
                exact hK _ _ hb HRE.out.2.2,?_⟩
              simp only[Act.put,nrA,nrB,nrC,Nat.reduceAdd]
              refine⟨_,fun f w1 h1=>by(have d0:=ct h1 hlt e0; have d1:=ct h1 hlt e1; have d2:=ct h1 hlt e2; have d3:=ct h1 hlt e3; go_simp; rfl),?_⟩
              intro f w1 k1 hF
              have i2:f 2=.agg #[.bool bq,.string t1,.bool false,.string t2]:=hF.2
              clear hF
              simp only[Act.put,nrA,nrB,nrC]
              rw[i2]
              generalize f 1=v1
              clear i2
              go_wp2
              all_goals (
                go_ret
                refine⟨?_,HQ.out.2.2.2.trans ((br.drew.trans k1).mono HQ.out.2.2.2.size)⟩
                have hre:=HRE.out.1
                simp only[Value.agg.injEq,Array.mk.injEq,List.cons.injEq,Value.bool.injEq,Value.string.injEq,true_and,and_true] at hre
                simp only[toL_iff] at *
                first
                  | (have hr : r = true := hre.2 (by simp [*])
                     rw[hr]; rfl)
                  | (have hr : r = false := by
                       cases h:r
                       · rfl
                       · obtain⟨a,b,c⟩:=hre.1 h
                         exfalso
                         subst a b c
                         contradiction
                     rw[hr]; rfl))
    · go_wp2
      go_ret
      exact⟨by rw[HF.out (fun hk=>c2 (chkR_zero.2 (HP.out hk).2.1))]; rfl,HAL.out.trans (hb12.mono (by simp))⟩
  · go_wp2
    go_ret
    exact⟨by rw[HF.out (fun hk=>c1 (chkR_zero.2 (HP.out hk).1))]; rfl,HAL.out.trans (hb1.mono (by simp))⟩
theorem RL_int(n:Int){k:Nat}(h:(words n.natAbs).length≤k)(hk:1≤k):RL (n:Rat) k:=by
 refine⟨?_,?_⟩
 ·rw[Rat.num_intCast]; exact h
 ·rw[Rat.den_intCast]; exact Nat.le_trans (words_length_le (k:=1) (by decide)) hk
theorem RL_i64(n:Int)(h0:-9223372036854775808≤n)(h1:n<9223372036854775808):RL (n:Rat) 2:=RL_int n (words_length_le (k:=2) (by omega)) (by decide)
theorem May_any(n1 n2:Bool)(s1 s2:ByteArray)(_:s1.size<274877906944)(_:s2.size<274877906944)(r:Bool)(hr:r=true↔FracOk (.agg #[.bool n1,.string s1,.bool n2,.string s2]))(w:World) :
  Calls Tryz.prog 22 #[.agg #[.bool n1,.string s1,.bool n2,.string s2]] w fun e w'=>e=.returned (.bool r)∧Below w.heap.size w w':=May_free n1 n2 s1 s2 r hr w
end Go.Proofs.YthklnbaddobieaaGreat
