/- Laws. -/
import Derived.Test.YtcjjdooeogmdbaaGreatVau
set_option linter.all false
set_option maxHeartbeats 4000000
set_option maxRecDepth 100000
open Go.Lib (hid)
namespace Tr
open Go Go.RowKit Go.Proofs.YtcjjdooeogmdbaaGreat
def RL.wn{q:Rat}{k:Nat}(h:RL q k):WL q.num.natAbs k:=h.1
def RL.wd{q:Rat}{k:Nat}(h:RL q k):WL q.den k:=h.2
end Tr
namespace Go.Proofs.YtcjjdooeogmdbaaGreat
open Go.RowKit Tr Proofs.Tryz
def Ujd(n:Nat):Value:=.agg #[.bool false,.string (Qcj n)]
def Qkb(n:Nat):Qfh (n:Int)=Ujd n:=by
 unfold Qfh Ujd;simp
def cF(q:Rat):List GF:=[gx (.bool (decide (q.num<0))),gx (.string (Qcj q.num.natAbs)),gx (.string (Qcj q.den))]
def WL.i{n k:Nat}(h:WL n k):WL (n:Int).natAbs k:=by rw[Int.natAbs_natCast];exact h
def WL.mul{x y:Int}{j k:Nat}(hx:WL x.natAbs j)(hy:WL y.natAbs k):WL (x*y).natAbs (j+k):=by rw[Int.natAbs_mul];exact Qgt hx hy
def WL.add{x y:Int}{k:Nat}(hx:WL x.natAbs k)(hy:WL y.natAbs k):WL (x+y).natAbs (k+1):=Qfx (Int.natAbs_add_le x y) (Ked hx hy)
def WL.neg{x:Int}{k:Nat}(hx:WL x.natAbs k):WL (-x).natAbs k:=by rw[Int.natAbs_neg];exact hx
def Qvu{a b:Int}(hb:b≠0)(g:Int)(hg:g=if b<0 then -(Nat.gcd a.natAbs b.natAbs:Int) else(Nat.gcd a.natAbs b.natAbs:Int)):a/g=(Rat.divInt a b).num/\b/g=((Rat.divInt a b).den:Int):=by
 obtain⟨h1,h2⟩:=divInt_parts hb g hg;have hd:∀ z:Int,((Nat.gcd a.natAbs b.natAbs:Nat):Int) ∣ z->g ∣ z:=fun z h=>by
  rw[hg];split
  .exact Int.neg_dvd.2 h
  .exact h
 rw[h1,h2];exact⟨(Int.tdiv_eq_ediv_of_dvd (hd a (Int.ofNat_dvd_left.2 (Nat.gcd_dvd_left _ _)))).symm,(Int.tdiv_eq_ediv_of_dvd (hd b (Int.ofNat_dvd_left.2 (Nat.gcd_dvd_right _ _)))).symm⟩
def Ufn(a b:Int)(hb1:0<b)(ha:WL a.natAbs 536870912)(hb:WL b.natAbs 536870912):PureC prog 102 [Qfh (a),Qfh (b)] ((Qgf (Rat.divInt a b))):=by
  have hb0:b≠0:=by omega
  have hg0:0<Nat.gcd a.natAbs b.natAbs:=Nat.gcd_pos_of_pos_right _ (by omega);have hgl:WL (Nat.gcd a.natAbs b.natAbs) 536870912:=Qfx (Nat.gcd_le_right _ (by omega)) hb;obtain⟨e1,e2⟩:=Qvu (a:=a) (b:=b) hb0 _ rfl;rw[if_neg (show ¬b<0 by omega)] at e1 e2;have d1:=Qzv a ((Nat.gcd a.natAbs b.natAbs:Nat):Int) (by omega) ha hgl.i;have d2:=Qzv b ((Nat.gcd a.natAbs b.natAbs:Nat):Int) (by omega) hb hgl.i;rw[e1] at d1;rw[e2,Qkb] at d2;exact Qay (hp:=false) (L:=cz (a)++cz (b)++cz (((Nat.gcd a.natAbs b.natAbs:Nat):Int))++[gx (.int .i64 (b.sign))]++cz (a%((Nat.gcd a.natAbs b.natAbs:Nat):Int))++cz (b%((Nat.gcd a.natAbs b.natAbs:Nat):Int))++cF (Rat.divInt a b)) Qai Qap
    [gp 181 [.row [.sym 0,.sym 1],.row [.sym 2,.sym 3]] (.r (.row [.sym 4,.sym 5])) eo181 (Uvn a b ha hb) rfl rfl,gp 126 [.row [.sym 2,.sym 3]] (.r (.c (.sym 6))) eo126 (Kgo b) rfl rfl,gp 183 [.row [.sym 0,.sym 1],.row [.sym 4,.sym 5]] (.tup [.row [.sym 11,.sym 12],.row [.sym 7,.sym 8]]) eo183 (d1) rfl rfl,gp 183 [.row [.sym 2,.sym 3],.row [.sym 4,.sym 5]] (.tup [.row [.lit (.bool false),.sym 13],.row [.sym 9,.sym 10]]) eo183 (d2) rfl rfl]
    [Qlj .lss 3 .i64 (.sym 6) (.lit (.int .i64 0)) b.sign 0 false (by rw[Int.sign_eq_one_of_pos hb1];rfl) rfl rfl] []
    func102 100 [.row [.sym 0,.sym 1],.row [.sym 2,.sym 3]] (.r (.row [.sym 11,.sym 12,.lit (.bool false),.sym 13])) (by kernel_rfl) rfl rfl
def Ufm(a b:Int)(hb1:b<0)(ha:WL a.natAbs 536870912)(hb:WL b.natAbs 536870912):PureC prog 102 [Qfh (a),Qfh (b)] ((Qgf (Rat.divInt a b))):=by
  have hb0:b≠0:=by omega
  have hg0:0<Nat.gcd a.natAbs b.natAbs:=Nat.gcd_pos_of_pos_right _ (by omega);have hgl:WL (Nat.gcd a.natAbs b.natAbs) 536870912:=Qfx (Nat.gcd_le_right _ (by omega)) hb;obtain⟨e1,e2⟩:=Qvu (a:=a) (b:=b) hb0 _ rfl;rw[if_pos (show b<0 by omega)] at e1 e2;have d1:=Qzv a (-((Nat.gcd a.natAbs b.natAbs:Nat):Int)) (by omega) ha hgl.i.neg;have d2:=Qzv b (-((Nat.gcd a.natAbs b.natAbs:Nat):Int)) (by omega) hb hgl.i.neg;rw[e1] at d1;rw[e2,Qkb] at d2;exact Qay (hp:=false) (L:=cz (a)++cz (b)++cz (((Nat.gcd a.natAbs b.natAbs:Nat):Int))++[gx (.int .i64 (b.sign))]++cz (-((Nat.gcd a.natAbs b.natAbs:Nat):Int))++cz (a % -((Nat.gcd a.natAbs b.natAbs:Nat):Int))++cz (b % -((Nat.gcd a.natAbs b.natAbs:Nat):Int))++cF (Rat.divInt a b)) Qai Qap
    [gp 181 [.row [.sym 0,.sym 1],.row [.sym 2,.sym 3]] (.r (.row [.sym 4,.sym 5])) eo181 (Uvn a b ha hb) rfl rfl,gp 126 [.row [.sym 2,.sym 3]] (.r (.c (.sym 6))) eo126 (Kgo b) rfl rfl,gp 182 [.row [.sym 4,.sym 5]] (.r (.row [.sym 7,.sym 8])) eo182 (Uvo _) rfl rfl,gp 183 [.row [.sym 0,.sym 1],.row [.sym 7,.sym 8]] (.tup [.row [.sym 13,.sym 14],.row [.sym 9,.sym 10]]) eo183 (d1) rfl rfl,gp 183 [.row [.sym 2,.sym 3],.row [.sym 7,.sym 8]] (.tup [.row [.lit (.bool false),.sym 15],.row [.sym 11,.sym 12]]) eo183 (d2) rfl rfl]
    [Qlj .lss 3 .i64 (.sym 6) (.lit (.int .i64 0)) b.sign 0 true (by rw[Int.sign_eq_neg_one_of_neg hb1];rfl) rfl rfl] []
    func102 100 [.row [.sym 0,.sym 1],.row [.sym 2,.sym 3]] (.r (.row [.sym 13,.sym 14,.lit (.bool false),.sym 15])) (by kernel_rfl) rfl rfl
def fof(a b:Int)(hb0:b≠0)(ha:WL a.natAbs 536870912)(hb:WL b.natAbs 536870912):PureC prog 102 [Qfh a,Qfh b] (Qgf (Rat.divInt a b)):=by
 rcases(show b<0\/0<b by omega) with h|h
 .exact Ufm a b h ha hb
 .exact Ufn a b h ha hb
def Qlr(x:Int)(n:Nat)(hx:WL x.natAbs 1073741824)(hn:WL n 1073741824):PureC prog 164 [Qfh x,Ujd n] (Qfh (x*(n:Int))):=by
 have:=Kla x n hx hn.i;rwa[Qkb] at this
def Kuo(n:Nat)(x:Int)(hx:WL x.natAbs 1073741824)(hn:WL n 1073741824):PureC prog 164 [Ujd n,Qfh x] (Qfh ((n:Int)*x)):=by
 have:=Kla n x hn.i hx;rwa[Qkb] at this
def Kea(m n:Nat)(hm:WL m 1073741824)(hn:WL n 1073741824):PureC prog 164 [Ujd m,Ujd n] (Qfh ((m:Int)*(n:Int))):=by
 have:=Kla m n hm.i hn.i;rwa[Qkb,Qkb] at this
def Ufo(x y:Rat)(hx:RL x 134217728)(hy:RL y 134217728):PureC prog 131 [Qgf (x),Qgf (y)] ((Qgf (x+y))):=by
  have ha:=WL.mul hx.wn hy.wd.i;have hb:=WL.mul hy.wn hx.wd.i;have hd:=WL.mul hx.wd.i hy.wd.i;have ho:=fof (x.num*(y.den:Int)+y.num*(x.den:Int)) ((x.den:Int)*(y.den:Int)) (Int.mul_ne_zero Qgr Qgr) ((ha.add hb).mono (by decide)) (hd.mono (by decide));rw[Qpi] at ho;exact Qay (hp:=false) (L:=cF (x)++cF (y)++cz (x.num*(y.den:Int))++cz (y.num*(x.den:Int))++cz (x.num*(y.den:Int)+y.num*(x.den:Int))++cz ((x.den:Int)*(y.den:Int))++cF (x+y)) Qai Qap
    [gp 164 [.row [.sym 0,.sym 1],.row [.lit (.bool false),.sym 5]] (.r (.row [.sym 6,.sym 7])) eo164 (Qlr _ _ (hx.wn.mono (by decide)) (hy.wd.mono (by decide))) rfl rfl,gp 164 [.row [.sym 3,.sym 4],.row [.lit (.bool false),.sym 2]] (.r (.row [.sym 8,.sym 9])) eo164 (Qlr _ _ (hy.wn.mono (by decide)) (hx.wd.mono (by decide))) rfl rfl,gp 199 [.row [.sym 6,.sym 7],.row [.sym 8,.sym 9]] (.r (.row [.sym 10,.sym 11])) eo199 (Uhl _ _ (ha.mono (by decide)) (hb.mono (by decide))) rfl rfl,gp 164 [.row [.lit (.bool false),.sym 2],.row [.lit (.bool false),.sym 5]] (.r (.row [.sym 12,.sym 13])) eo164 (Kea _ _ (hx.wd.mono (by decide)) (hy.wd.mono (by decide))) rfl rfl,gp 102 [.row [.sym 10,.sym 11],.row [.sym 12,.sym 13]] (.r (.row [.sym 14,.sym 15,.lit (.bool false),.sym 16])) eo102 (ho) rfl rfl]
    [] []
    func131 100 [.row [.sym 0,.sym 1,.lit (.bool false),.sym 2],.row [.sym 3,.sym 4,.lit (.bool false),.sym 5]] (.r (.row [.sym 14,.sym 15,.lit (.bool false),.sym 16])) (by kernel_rfl) rfl rfl
def Ksa(x y:Rat)(hx:RL x 134217728)(hy:RL y 134217728):PureC prog 81 [Qgf (x),Qgf (y)] ((Qgf (x*y))):=by
  have ho:=fof (x.num*y.num) ((x.den:Int)*(y.den:Int)) (Int.mul_ne_zero Qgr Qgr) ((WL.mul hx.wn hy.wn).mono (by decide)) ((WL.mul hx.wd.i hy.wd.i).mono (by decide));rw[Qpu] at ho;exact Qay (hp:=false) (L:=cF (x)++cF (y)++cz (x.num*y.num)++cz ((x.den:Int)*(y.den:Int))++cF (x*y)) Qai Qap
    [gp 164 [.row [.sym 0,.sym 1],.row [.sym 3,.sym 4]] (.r (.row [.sym 6,.sym 7])) eo164 (Kla _ _ (hx.wn.mono (by decide)) (hy.wn.mono (by decide))) rfl rfl,gp 164 [.row [.lit (.bool false),.sym 2],.row [.lit (.bool false),.sym 5]] (.r (.row [.sym 8,.sym 9])) eo164 (Kea _ _ (hx.wd.mono (by decide)) (hy.wd.mono (by decide))) rfl rfl,gp 102 [.row [.sym 6,.sym 7],.row [.sym 8,.sym 9]] (.r (.row [.sym 10,.sym 11,.lit (.bool false),.sym 12])) eo102 (ho) rfl rfl]
    [] []
    func81 100 [.row [.sym 0,.sym 1,.lit (.bool false),.sym 2],.row [.sym 3,.sym 4,.lit (.bool false),.sym 5]] (.r (.row [.sym 10,.sym 11,.lit (.bool false),.sym 12])) (by kernel_rfl) rfl rfl
def Kgb(x y:Rat)(hy:y≠0):Rat.divInt (x.num*(y.den:Int)) ((x.den:Int)*y.num)=x/y:=by
 rw[Rat.div_def,<-Qlw]
 conv=>rhs;lhs;rw[<-Rat.num_divInt_den x]
 rw[Rat.divInt_mul_divInt]
def Usj(x y:Rat)(hx:RL x 134217728)(hy:RL y 134217728)(h0:y≠0):PureC prog 127 [Qgf (x),Qgf (y)] ((Qgf (x/y))):=by
  have hn0:y.num≠0:=fun h=>h0 (Rat.num_eq_zero.1 h)
  have ho:=fof (x.num*(y.den:Int)) ((x.den:Int)*y.num) (Int.mul_ne_zero Qgr hn0) ((WL.mul hx.wn hy.wd.i).mono (by decide)) ((WL.mul hx.wd.i hy.wn).mono (by decide));rw[Kgb x y h0] at ho;exact Qay (hp:=false) (L:=cF (x)++cF (y)++cz (x.num*(y.den:Int))++cz ((x.den:Int)*y.num)++cF (x/y)) Qai Qap
    [gp 164 [.row [.sym 0,.sym 1],.row [.lit (.bool false),.sym 5]] (.r (.row [.sym 6,.sym 7])) eo164 (Qlr _ _ (hx.wn.mono (by decide)) (hy.wd.mono (by decide))) rfl rfl,gp 164 [.row [.lit (.bool false),.sym 2],.row [.sym 3,.sym 4]] (.r (.row [.sym 8,.sym 9])) eo164 (Kuo _ _ (hy.wn.mono (by decide)) (hx.wd.mono (by decide))) rfl rfl,gp 102 [.row [.sym 6,.sym 7],.row [.sym 8,.sym 9]] (.r (.row [.sym 10,.sym 11,.lit (.bool false),.sym 12])) eo102 (ho) rfl rfl]
    [] []
    func127 100 [.row [.sym 0,.sym 1,.lit (.bool false),.sym 2],.row [.sym 3,.sym 4,.lit (.bool false),.sym 5]] (.r (.row [.sym 10,.sym 11,.lit (.bool false),.sym 12])) (by kernel_rfl) rfl rfl
def Ule(x:Rat):PureC prog 137 [Qgf x] (Qgf (-x)):=by
 have hn:=Uvo x.num;rw[<-Rat.neg_num] at hn;exact Qay (hp:=false) (L:=cF (x)++cz ((-x).num)) Qai Qap
  [gp 182 [.row [.sym 0,.sym 1]] (.r (.row [.sym 3,.sym 4])) eo182 (hn) rfl rfl]
  [] []
  func137 100 [.row [.sym 0,.sym 1,.lit (.bool false),.sym 2]] (.r (.row [.sym 3,.sym 4,.lit (.bool false),.sym 2])) (by kernel_rfl) rfl rfl
def Uld(x y:Rat)(hx:RL x 134217728)(hy:RL y 134217728):PureC prog 80 [Qgf (x),Qgf (y)] ((Qgf (x-y))):=by
  have hp:=Ufo x (-y) hx (Qbq hy);rw[<-Rat.sub_eq_add_neg] at hp;exact Qay (hp:=false) (L:=cF (x)++cF (y)++cF (-y)++cF (x-y)) Qai Qap
    [gp 137 [.row [.sym 3,.sym 4,.lit (.bool false),.sym 5]] (.r (.row [.sym 6,.sym 7,.lit (.bool false),.sym 8])) eo137 (Ule y) rfl rfl,gp 131 [.row [.sym 0,.sym 1,.lit (.bool false),.sym 2],.row [.sym 6,.sym 7,.lit (.bool false),.sym 8]] (.r (.row [.sym 9,.sym 10,.lit (.bool false),.sym 11])) eo131 (hp) rfl rfl]
    [] []
    func80 100 [.row [.sym 0,.sym 1,.lit (.bool false),.sym 2],.row [.sym 3,.sym 4,.lit (.bool false),.sym 5]] (.r (.row [.sym 9,.sym 10,.lit (.bool false),.sym 11])) (by kernel_rfl) rfl rfl
def Utm(x:Rat):PureC prog 55 [Qgf (x)] ((.int .i64 (x.num.sign))):=by
 exact Qay (hp:=false) (L:=cF (x)++[gx (.int .i64 (x.num.sign))]) Qai Qap
  [gp 126 [.row [.sym 0,.sym 1]] (.r (.c (.sym 3))) eo126 (Kgo _) rfl rfl]
  [] []
  func55 100 [.row [.sym 0,.sym 1,.lit (.bool false),.sym 2]] (.r (.c (.sym 3))) (by kernel_rfl) rfl rfl
def Usg(n:Int)(h1:-9223372036854775808<=n)(h2:n<9223372036854775808):PureC prog 38 [.int .i64 (n)] ((Qgf ((n:Rat)))):=by
  have h:=sof 1 (by decide) (by decide);rw[show(1:Int)=((1:Nat):Int) from rfl,Qkb] at h;exact Qay (hp:=false) (L:=[gx (.int .i64 (n))]++cF ((n:Rat))) Qai Qap
    [gp 99 [.c (.sym 0)] (.r (.row [.sym 1,.sym 2])) eo99 (sof n h1 h2) rfl rfl,gp 99 [.c (.lit (.int .i64 1))] (.r (.row [.lit (.bool false),.sym 3])) eo99 (h) rfl rfl]
    [] []
    func38 100 [.c (.sym 0)] (.r (.row [.sym 1,.sym 2,.lit (.bool false),.sym 3])) (by kernel_rfl) rfl rfl
def Qon{s:ByteArray}(h:s.size=0):s=⟨#[]⟩:=by
 apply ByteArray.ext;apply Array.eq_empty_of_size_eq_zero;exact h
def Kbm(neg:Bool)(w:World) :
  Calls prog 211 #[.agg #[.bool neg,.string ⟨#[]⟩]] w fun e w'=>e=.returned (.int .i64 (if neg then 2 else 0))/\Below w.heap.size w w':=by
 cases neg
 .go_enter func211,Tryz.ntmps211
  go_wp2
  go_ret
  exact⟨rfl,br.alloc lr _⟩
 .go_enter func211,Tryz.ntmps211
  go_wp2
  go_ret
  exact⟨rfl,br.alloc lr _⟩
def Qvq(neg:Bool)(s:ByteArray)(hs:0<s.size)(r:Int)(hr:r=if s[0].toNat=0\/16384<s.size then 2 else 0)(w:World) :
  Calls prog 211 #[.agg #[.bool neg,.string s]] w fun e w'=>e=.returned (.int .i64 r)/\Below w.heap.size w w':=by
 have hne:¬s.toList=[]:=fun h=>by
  have h2:s.toList.length=s.size:=by rw[ByteArray.toList_eq];simp
  rw[h] at h2;simp at h2;omega
 have hne2:(!s.toList.isEmpty)=true:=by simpa using hne
 by_cases hx:s[0].toNat=0
 .rw[if_pos (.inl hx)] at hr;subst hr;have hb:(((s[0].toNat:Nat):Int)==0)=true:=by rw[hx];rfl
  go_enter func211,Tryz.ntmps211
  go_wp2
  all_goals go_ret
  all_goals exact⟨rfl,br.alloc lr _⟩
 .have hb:(((s[0].toNat:Nat):Int)==0)=false:=by simpa using hx
  by_cases hl:16384<s.size
  .rw[if_pos (.inr hl)] at hr;subst hr;have hl2:(16384:Int)<(s.size:Int):=by omega
   go_enter func211,Tryz.ntmps211
   go_wp2
   all_goals go_ret
   all_goals exact⟨rfl,br.alloc lr _⟩
  .rw[if_neg (by omega)] at hr;subst hr;have hl2:¬(16384:Int)<(s.size:Int):=by omega
   go_enter func211,Tryz.ntmps211
   go_wp2
   all_goals go_ret
   all_goals exact⟨rfl,br.alloc lr _⟩
def OkW(neg:Bool)(s:ByteArray):Prop:=Qlc neg s/\s.size<=16384
def Qpw:Qsc ⟨#[]⟩:=fun x l h=>by simp at h
def Qob{s:ByteArray}(hs:0<s.size):Qsc s↔s[0].toNat≠0:=by
  have e:s.data.toList=s[0]::s.data.toList.tail:=by
    cases h:s.data.toList with
    | nil => have : s.data.toList.length = s.size := by simp
             rw[h] at this;simp at this;omega
    | cons x l =>
      have h0:s.data[0]?=some x:=by rw[<-Array.getElem?_toList,h];rfl
      have h1:s[0]=x:=by
        have h2:s.data[0]?=some s[0]:=Array.getElem?_eq_getElem hs;rw[h2] at h0;simpa using h0
      rw[h1];rfl
  constructor
  · intro h hx;exact h _ _ e (UInt8.toNat_inj.1 hx)
  · intro h x l hl hx;rw[e] at hl;simp at hl;rw[<-hl.1] at hx;exact h (by rw[hx];rfl)
def Kin{neg:Bool}{s:ByteArray}(h:OkW neg s)(w:World):Calls prog 211 #[.agg #[.bool neg,.string s]] w fun e w'=>e=.returned (.int .i64 0)/\Below w.heap.size w w':=by
 rcases Nat.eq_zero_or_pos s.size with h0|h0
 .have:=h.1.1 h0;subst this;rw[Qon h0];exact Kbm false w
 .exact Qvq neg s h0 0 (by rw[if_neg];have:=(Qob h0).1 h.1.2;have:=h.2;omega) w
def Kri{neg:Bool}{s:ByteArray}(h:¬OkW neg s)(w:World):Calls prog 211 #[.agg #[.bool neg,.string s]] w fun e w'=>e=.returned (.int .i64 2)/\Below w.heap.size w w':=by
 rcases Nat.eq_zero_or_pos s.size with h0|h0
 .have hs:=Qon h0;subst hs;cases neg
  .exact absurd ⟨⟨fun _=>rfl,Qpw⟩,by decide⟩ h
  .exact Kbm true w
 .refine Qvq neg s h0 2 ?_ w;rw[if_pos]
  by_cases h1:s[0].toNat=0
  .exact .inl h1
  .right;rcases Nat.lt_or_ge 16384 s.size with h2|h2
   .exact h2
   .exact absurd ⟨⟨fun h3=>by omega,(Qob h0).2 h1⟩,h2⟩ h
def Ubr{neg:Bool}{s:ByteArray}(h:OkW neg s)(w:World):Calls prog 213 #[.agg #[.bool neg,.string s]] w fun e w'=>e=.returned (.int .i64 (sgn neg (Qgm s)).sign)/\Below w.heap.size w w':=by
 have HC:=hid (fun w=>Kin h w);obtain⟨r,hr⟩:∃ r,r=(sgn neg (Qgm s)).sign:=⟨_,rfl⟩
 rw[<-hr];have HR:=hid (And.intro hr h);clear hr h;have arm:∀(w1:World),Below (w.alloc (.cells #[.bool neg,.string s] 24)).heap.size (w.alloc (.cells #[.bool neg,.string s] 24)) w1->w1.cell? ⟨w.heap.size,0,none⟩=some (.bool neg)/\w1.cell? ⟨w.heap.size,1,none⟩=some (.string s)/\Below w.heap.size w w1:=fun w1 hb=>by
  obtain⟨e0,e1,_⟩:=Qid w _ _ _ hb;exact⟨e0,e1,(br.alloc lr _).trans (hb.mono (by simp))⟩
 have HA:=hid arm;clear arm;rcases Nat.eq_zero_or_pos s.size with h0|h0
 .obtain rfl:neg=false:=HR.out.2.1.1 h0;obtain rfl:=Qon h0;have h1:r=0:=by rw[HR.out.1,(Qgw Qpw).2 rfl];rfl
  subst h1;clear h0
  go_enter func213,Tryz.ntmps213
  go_wp2_with (go_at_call 211;refine(HC.out _).mono ?_;rintro e w1 ⟨rfl,hb⟩;obtain⟨e0,e1,hbw⟩:=HA.out w1 hb;clear hb)
  go_ret
  exact⟨rfl,hbw⟩
 .have hne:¬s.toList=[]:=fun h=>by
   have h2:s.toList.length=s.size:=by rw[ByteArray.toList_eq];simp
   rw[h] at h2;simp at h2;omega
  have hne2:(!s.toList.isEmpty)=true:=by simpa using hne
  have hn0:Qgm s≠0:=fun h=>by have:=(Qgw HR.out.2.1.2).1 h;omega
  cases neg
  .have h1:r=1:=by rw[HR.out.1];unfold sgn;exact Int.sign_eq_one_of_pos (by simp;omega)
   subst h1;clear hn0
   go_enter func213,Tryz.ntmps213
   go_wp2_with (go_at_call 211;refine(HC.out _).mono ?_;rintro e w1 ⟨rfl,hb⟩;obtain⟨e0,e1,hbw⟩:=HA.out w1 hb;clear hb)
   go_ret
   exact⟨rfl,hbw⟩
  .have h1:r=-1:=by rw[HR.out.1];unfold sgn;exact Int.sign_eq_neg_one_of_neg (by simp;omega)
   subst h1;clear hn0
   go_enter func213,Tryz.ntmps213
   go_wp2_with (go_at_call 211;refine(HC.out _).mono ?_;rintro e w1 ⟨rfl,hb⟩;obtain⟨e0,e1,hbw⟩:=HA.out w1 hb;clear hb)
   go_ret
   exact⟨rfl,hbw⟩
def Kky(neg:Bool)(s:ByteArray)(b:Bool)(hb:b=decide ((s.size:Int)<=1024))(w:World):Calls prog 212 #[.agg #[.bool neg,.string s]] w fun e w'=>e=.returned (.bool b)/\Below w.heap.size w w':=by
 subst hb
 go_enter func212,Tryz.ntmps212
 go_wp2
 go_ret
 exact⟨rfl,br.alloc lr _⟩
def Qgp(v:Value):Prop:=∃ q:Rat,v=Qgf q/\(Qcj q.num.natAbs).size<=1024/\(Qcj q.den).size<=1024
open Classical in
noncomputable def Ujb(neg:Bool)(s:ByteArray):Int:=if OkW neg s then 0 else 2
def Kyh(neg:Bool)(s:ByteArray)(w:World):Calls prog 211 #[.agg #[.bool neg,.string s]] w fun e w'=>e=.returned (.int .i64 (Ujb neg s))/\Below w.heap.size w w':=by
 unfold Ujb
 split
 .rename_i h;exact Kin h w
 .rename_i h;exact Kri h w
def Qnr{neg:Bool}{s:ByteArray}:Ujb neg s=0↔OkW neg s:=by unfold Ujb;split<;>simp[*]
def Qrs(z:Int)(h:(Qcj z.natAbs).size<=16384):OkW (decide (z<0)) (Qcj z.natAbs):=by
 refine⟨⟨fun h0=>?_,Qgl _⟩,h⟩;have:z.natAbs=0:=by
  have:=(Qgw (Qgl z.natAbs)).2 h0;rwa[Qdq] at this
 have:z=0:=by omega
 subst this;rfl
def Qcn{q:Rat}{n1 n2:Bool}{s1 s2:ByteArray}(h:Value.agg #[.bool n1,.string s1,.bool n2,.string s2]=Qgf q):n1=decide (q.num<0)/\s1=Qcj q.num.natAbs/\n2=false/\s2=Qcj q.den:=by
 unfold Qgf at h;simpa using h
def Qsn{q:Rat}{n1 n2:Bool}{s1 s2:ByteArray}(h:Value.agg #[.bool n1,.string s1,.bool n2,.string s2]=Qgf q):Rat.divInt (sgn n1 (Qgm s1)) (sgn n2 (Qgm s2))=q:=by
 obtain⟨rfl,rfl,rfl,rfl⟩:=Qcn h;rw[Qdq,Qdq,Qrx];show Rat.divInt q.num ((q.den:Nat):Int)=q;exact Rat.num_divInt_den q
def Qng{a b:ByteArray}:a.toList=b.toList↔a=b:=by
 rw[ByteArray.toList_eq,ByteArray.toList_eq];constructor
 .intro h;cases a;cases b;simp_all
 .rintro rfl;rfl
def Qnh{n:Nat}{s:ByteArray}(h:Qgm s=n):(Qad n).length<=s.size:=by
 subst h;exact Qak (Nat.lt_of_lt_of_le (Qmz s) (Nat.pow_le_pow_left (by decide) _))
def Kfb (n1 n2 : Bool) (s1 s2 : ByteArray) (h1 : s1.size < 274877906944) (h2 : s2.size < 274877906944) (r : Bool) (hr : r = true ↔ Qgp (.agg #[.bool n1,.string s1,.bool n2,.string s2])) (w : World) :
    Calls prog 166 #[.agg #[.bool n1,.string s1,.bool n2,.string s2]] w fun e w'=>e=.returned (.bool r)/\Below w.heap.size w w':=by
  have HR:=hid hr;have HK:=hid (fun neg s w=>Kyh neg s w);clear hr;have HF:=hid (fun(h:¬Qgp (.agg #[.bool n1,.string s1,.bool n2,.string s2]))=>show r=false by cases hr:r;rfl;exact absurd (HR.out.1 hr) h);have HAL:=hid (show Below w.heap.size w (w.alloc (.cells #[.bool n1,.string s1,.bool n2,.string s2] 26)) from br.alloc lr _)
  -- what a fraction that may be says of the parts
  have HP:=hid (fun(h:Qgp (.agg #[.bool n1,.string s1,.bool n2,.string s2]))=>show OkW n1 s1/\OkW n2 s2/\s1.size<=1024/\s2.size<=1024/\n2=false/\0<s2.size by
    obtain⟨q,e,k1,k2⟩:=h;obtain⟨rfl,rfl,rfl,rfl⟩:=Qcn e;refine⟨Qrs _ (by omega),?_,k1,k2,rfl,?_⟩
    · have:=Qrs (q.den:Int) (by simp;omega);rw[show decide ((q.den:Int)<0)=false by simp] at this;simpa using this
    · rcases Nat.eq_zero_or_pos (Qcj q.den).size with h0|h0
      · have:=(Qgw (Qgl q.den)).2 h0;rw[Qdq] at this;exact absurd this q.den_nz
      · exact h0)
  go_enter func166,Tryz.ntmps166
  go_wp2_with fail
  refine(HK.out n1 s1 _).mono ?_;rintro e w1 ⟨rfl,hb1⟩;obtain⟨e0,e1,e2,e3,_⟩:=Qgi w _ _ _ _ _ hb1
  by_cases c1:Ujb n1 s1=0
  · rw[c1]
    go_wp2_with fail
    refine(HK.out n2 s2 _).mono ?_;rintro e w2 ⟨rfl,hb2⟩;have hb12:=hb1.trans (hb2.mono hb1.size);clear e0 e1 e2 e3;obtain⟨e0,e1,e2,e3,_⟩:=Qgi w _ _ _ _ _ hb12
    by_cases c2:Ujb n2 s2=0
    · rw[c2];have k1:=Qnr.1 c1;have k2:=Qnr.1 c2;obtain⟨b1,hb1'⟩:∃ b1,b1=decide ((s1.size:Int)<=1024):=⟨_,rfl⟩
      obtain⟨b2,hb2'⟩:∃ b2,b2=decide ((s2.size:Int)<=1024):=⟨_,rfl⟩
      have HB:=hid (And.intro hb1' hb2');clear hb1' hb2'
      go_wp2_with fail
      refine(Kky n1 s1 b1 HB.out.1 _).mono ?_;rintro e w3 ⟨rfl,hb3⟩;have hb13:=hb12.trans (hb3.mono hb12.size);clear e0 e1 e2 e3;obtain⟨e0,e1,e2,e3,_⟩:=Qgi w _ _ _ _ _ hb13;cases b1
      · go_wp2
        go_ret
        exact⟨by rw[HF.out (fun hk=>by have h1:=(HP.out hk).2.2.1;have h2:=HB.out.1;simp at h2;omega)];rfl,HAL.out.trans (hb13.mono (by simp))⟩
      · go_wp2_with fail
        refine(Kky n2 s2 b2 HB.out.2 _).mono ?_;rintro e w4 ⟨rfl,hb4⟩;have hb14:=hb13.trans (hb4.mono hb13.size);clear e0 e1 e2 e3;obtain⟨e0,e1,e2,e3,_⟩:=Qgi w _ _ _ _ _ hb14;cases b2
        · go_wp2
          go_ret
          exact⟨by rw[HF.out (fun hk=>by have h1:=(HP.out hk).2.2.2.1;have h2:=HB.out.2;simp at h2;omega)];rfl,HAL.out.trans (hb14.mono (by simp))⟩
        · obtain⟨sg,hsg⟩:∃ sg,sg=(sgn n2 (Qgm s2)).sign:=⟨_,rfl⟩
          have HS:=hid (fun w=>Ubr k2 w);rw[<-hsg] at HS;have HG:=hid hsg;clear hsg
          go_wp2_with fail
          refine(HS.out _).mono ?_;rintro e w5 ⟨rfl,hb5⟩;have hb15:=hb14.trans (hb5.mono hb14.size);clear e0 e1 e2 e3;obtain⟨e0,e1,e2,e3,_⟩:=Qgi w _ _ _ _ _ hb15
          by_cases c3:sg<=0
          · go_wp2
            go_ret
            have hno:¬Qgp (.agg #[.bool n1,.string s1,.bool n2,.string s2]):=fun hk=>by
              obtain⟨_,_,_,_,h1,h2⟩:=HP.out hk;subst h1;have h3:Qgm s2≠0:=fun h=>by have:=(Qgw k2.1.2).1 h;omega
              have h4:sg=1:=by rw[HG.out];unfold sgn;exact Int.sign_eq_one_of_pos (by simp;omega)
              omega
            exact⟨by rw[HF.out hno];rfl,HAL.out.trans (hb15.mono (by simp))⟩
          · have hn2 : n2 = false := by
              cases n2
              · rfl
              · exfalso;apply c3;rw[HG.out];unfold sgn;rcases Nat.eq_zero_or_pos (Qgm s2) with h|h
                · simp[h]
                · rw[Int.sign_eq_neg_one_of_neg (by simp;omega)];decide
            have hd0:Qgm s2≠0:=fun h=>by
              apply c3;rw[HG.out,h];unfold sgn;simp
            have hBw:=HAL.out.trans (hb15.mono (by simp));have hlt:w.heap.size<w5.heap.size:=by have:=hb15.size;simp at this;omega
            have HQ:=hid (And.intro k1 (And.intro k2 (And.intro hd0 hBw)));clear HS HG hb1 hb2 hb3 hb4 hb5 hb12 hb13 hb14 hb15 k1 k2 hd0 hBw c1 c2;subst hn2;obtain⟨q,hq⟩:∃ q,q=Rat.divInt (sgn n1 (Qgm s1)) (sgn false (Qgm s2)):=⟨_,rfl⟩
            have HRat:=hid (fun w=>Ugy n1 false s1 s2 HQ.out.2.2.1 h1 h2 w);rw[<-hq] at HRat;have hql:RL q 137438953472:=by
              rw[hq];refine(Qhy (k:=1024) (by unfold sgn;simpa using HQ.out.2.2.1) ?_ ?_).mono (by decide)
              · rw[Qck];exact Nat.le_trans (Qnh rfl) (by have:=HB.out.1;simp at this;omega)
              · rw[Qck];exact Nat.le_trans (Qnh rfl) (by have:=HB.out.2;simp at this;omega)
            have hre:(r=true)↔Value.agg #[.bool n1,.string s1,.bool false,.string s2]=Qgf q:=by
              constructor
              · intro hr;obtain⟨q',hq',_⟩:=HR.out.1 hr;have:=Qsn hq';rw[<-hq] at this;rw[this];exact hq'
              · intro he;obtain⟨a1,a2,a3,a4⟩:=Qcn he;refine HR.out.2 ⟨q,he,?_,?_⟩
                · rw[<-a2];have:=HB.out.1;simp at this;omega
                · rw[<-a4];have:=HB.out.2;simp at this;omega
            obtain⟨bq,hbq⟩:∃ bq,bq=decide (q.num<0):=⟨_,rfl⟩
            obtain⟨t1,ht1⟩:∃ t1,t1=Qcj q.num.natAbs:=⟨_,rfl⟩
            obtain⟨t2,ht2⟩:∃ t2,t2=Qcj q.den:=⟨_,rfl⟩
            have heq:Qgf q=.agg #[.bool bq,.string t1,.bool false,.string t2]:=by rw[hbq,ht1,ht2];rfl
            rw[heq] at hre;have HRE:=hid (And.intro hre (And.intro hql heq));clear hq hbq ht1 ht2 heq hql hre HB HP
            go_wp2_with fail
            refine Qat [(.lit,[]),(.val,[]),(.val,[1]),(.lit,[])]
              (Qfv [(1,Qbl q),(2,fun v _ _=>v=.agg #[.bool bq,.string t1,.bool false,.string t2])]) (by kernel_rfl) ?_ ?_ (by simp) (by simp) (by kernel_rfl)
            · exact Qbc (by simp only[List.mem_cons,List.not_mem_nil,or_false];rintro p (rfl|rfl);exact Qbl.keeps q;exact fun _ _ _ _ _ _ _ h=>h)
            · refine⟨_,fun f w1 h1=>by(have d0:=ct h1 hlt e0;have d1:=ct h1 hlt e1;have d2:=ct h1 hlt e2;have d3:=ct h1 hlt e3;go_simp;rfl),?_⟩;simp only[Act.put,nrA,nrB,nrC,Nat.reduceAdd];refine⟨fun f w1 A1 k1 hA hN hd K hK=>by
                go_simp
                refine(HRat.out w1).mono ?_;rintro e w' ⟨v,rfl,hn⟩;exact hK _ _ hn.1 (hn.2 A1 hA),?_⟩
              simp only[Act.put,nrA,nrB,nrC,Nat.reduceAdd];refine⟨fun f w1 A1 k1 hA hN hd K hK=>by
                have i1:Qbl q (f 1) w1 A1:=hd 1 (by simp)
                go_simp
                refine(Klf q _ A1 w1 i1 HRE.out.2.1).mono ?_;rintro e w' ⟨rfl,hb⟩;exact hK _ _ hb HRE.out.2.2,?_⟩
              simp only[Act.put,nrA,nrB,nrC,Nat.reduceAdd];refine⟨_,fun f w1 h1=>by(have d0:=ct h1 hlt e0;have d1:=ct h1 hlt e1;have d2:=ct h1 hlt e2;have d3:=ct h1 hlt e3;go_simp;rfl),?_⟩;intro f w1 k1 hF;have i2:f 2=.agg #[.bool bq,.string t1,.bool false,.string t2]:=hF.2;clear hF;simp only[Act.put,nrA,nrB,nrC];rw[i2];generalize f 1=v1;clear i2
              go_wp2
              all_goals (
                go_ret
                refine⟨?_,HQ.out.2.2.2.trans ((br.drew.trans k1).mono HQ.out.2.2.2.size)⟩;have hre:=HRE.out.1;simp only[Value.agg.injEq,Array.mk.injEq,List.cons.injEq,Value.bool.injEq,Value.string.injEq,true_and,and_true] at hre;simp only[Qng] at *
                first
                  | (have hr : r = true := hre.2 (by simp [*])
                     rw[hr];rfl)
                  | (have hr : r = false := by
                       cases h:r
                       · rfl
                       · obtain⟨a,b,c⟩:=hre.1 h;exfalso;subst a b c;contradiction
                     rw[hr];rfl))
    · go_wp2
      go_ret
      exact⟨by rw[HF.out (fun hk=>c2 (Qnr.2 (HP.out hk).2.1))];rfl,HAL.out.trans (hb12.mono (by simp))⟩
  · go_wp2
    go_ret
    exact⟨by rw[HF.out (fun hk=>c1 (Qnr.2 (HP.out hk).1))];rfl,HAL.out.trans (hb1.mono (by simp))⟩
def Ukc(n:Int){k:Nat}(h:(Qad n.natAbs).length<=k)(hk:1<=k):RL (n:Rat) k:=by
 refine⟨?_,?_⟩
 .rw[Rat.num_intCast];exact h
 .rw[Rat.den_intCast];exact Nat.le_trans (Qak (k:=1) (by decide)) hk
def Qvl(n:Int)(h0:-9223372036854775808<=n)(h1:n<9223372036854775808):RL (n:Rat) 2:=Ukc n (Qak (k:=2) (by omega)) (by decide)
def Qyd(q:Rat):∃ b1 t1 t2,Qgf q=.agg #[.bool b1,.string t1,.bool false,.string t2]:=⟨_,_,_,rfl⟩
def Kia(n:Int)(hn0:-9223372036854775808<=n)(hn1:n<9223372036854775808)(w:World) :
  Calls prog 175 #[.int .i64 n] w fun e w'=>e=.returned (Qgf n)/\Below w.heap.size w w':=by
 have HA:=hid (show Below w.heap.size w (w.alloc (.cells #[.bool false,.string ⟨#[]⟩,.bool false,.string ⟨#[]⟩] 26)) from br.alloc lr _);have HS:=hid (Qxs (w.heap.size+1) _ n hn0 hn1 ((w.alloc (.cells #[.bool false,.string ⟨#[]⟩,.bool false,.string ⟨#[]⟩] 26)).alloc zR) (by have:=heap_alloc_new (w.alloc (.cells #[.bool false,.string ⟨#[]⟩,.bool false,.string ⟨#[]⟩] 26)) zR;simpa using this) (by decide) Qcy)
 go_enter func175,Tryz.ntmps175
 go_wp2_with fail
 refine HS.out.mono ?_;rintro e w1 ⟨rfl,hp⟩;have hr:=(hp.ratP (Qbu _)).noA;have HT:=hid (Klf _ _ NoA w1 hr ((Qvl n hn0 hn1).mono (by decide)));have hz:(w.alloc (.cells #[.bool false,.string ⟨#[]⟩,.bool false,.string ⟨#[]⟩] 26)).heap.size=w.heap.size+1:=by simp
 have hb1:=Qhi (by rw[hz];exact hp.1);clear HS hp hr
 go_wp2_with fail
 refine HT.out.mono ?_;rintro e w2 ⟨rfl,hb2⟩;have hb12:=hb1.trans (hb2.mono hb1.size);obtain⟨e0,e1,e2,e3,f0,f1,f2,f3⟩:=Qgi w _ _ _ _ _ hb12;have HB:=hid (HA.out.trans (hb12.mono (by simp)));obtain⟨b1,t1,t2,he⟩:=Qyd n;have HE:=hid he;rw[he];clear he hb1 hb2 hb12 HT hz
 go_wp2_with fail
 refine bodyPost_ret (v:=.agg #[.bool b1,.string t1,.bool false,.string t2]) (by simp[results,Tryz.results175,go_sem,e0,e1,e2,e3]) rfl ⟨by rw[HE.out],?_⟩;exact((((HB.out.setCell (p:=⟨w.heap.size,0,none⟩) lr _).setCell (p:=⟨w.heap.size,1,none⟩) lr _).setCell (p:=⟨w.heap.size,2,none⟩) lr _).setCell (p:=⟨w.heap.size,3,none⟩) lr _)
