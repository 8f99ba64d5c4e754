/- Laws. -/
import Derived.Test.YtmimficdpfmfgaaGreatWan
set_option linter.all false
set_option maxHeartbeats 4000000
set_option maxRecDepth 100000
open Go.Lib (hid)
namespace Tr
open Go Go.RowKit Go.Proofs.YtmimficdpfmfgaaGreat
def RL.wn{q:Rat}{k:Nat}(h:RL q k):WL q.num.natAbs k:=h.1
def RL.wd{q:Rat}{k:Nat}(h:RL q k):WL q.den k:=h.2
end Tr
namespace Go.Proofs.YtmimficdpfmfgaaGreat
open Go.RowKit Tr Proofs.Tryz
def Ugj(n:Nat):Value:=.agg #[.bool false,.string (Qcg n)]
def Qhv(n:Nat):Qdu (n:Int)=Ugj n:=by
 unfold Qdu Ugj;simp
def cF(q:Rat):List GF:=[gx (.bool (decide (q.num<0))),gx (.string (Qcg q.num.natAbs)),gx (.string (Qcg q.den))]
def WL.i{n k:Nat}(h:WL n k):WL (n:Int).natAbs k:=by rw[axs];exact h
def WL.mul{x y:Int}{j k:Nat}(hx:WL x.natAbs j)(hy:WL y.natAbs k):WL (x*y).natAbs (j+k):=by rw[axm];exact Qfu hx hy
def WL.add{x y:Int}{k:Nat}(hx:WL x.natAbs k)(hy:WL y.natAbs k):WL (x+y).natAbs (k+1):=Qfc (Int.natAbs_add_le x y) (Kcl hx hy)
def WL.neg{x:Int}{k:Nat}(hx:WL x.natAbs k):WL (-x).natAbs k:=by rw[Int.natAbs_neg];exact hx
def Qvh{a b:Int}(hb:b≠0)(g:Int)(hg:g=if b<0 then -(Nat.gcd a.natAbs b.natAbs:Int) else(Nat.gcd a.natAbs b.natAbs:Int)):a/g=(Rat.divInt a b).num/\b/g=((Rat.divInt a b).den:Int):=by
 obtain⟨h1,h2⟩:=divInt_parts hb g hg;have hd:∀ z:Int,((Nat.gcd a.natAbs b.natAbs:Nat):Int) ∣ z->g ∣ z:=fun z h=>by
  rw[hg];split
  .exact Int.neg_dvd.2 h
  .exact h
 rw[h1,h2];exact⟨(Int.tdiv_eq_ediv_of_dvd (hd a (Int.ofNat_dvd_left.2 (Nat.gcd_dvd_left _ _)))).symm,(Int.tdiv_eq_ediv_of_dvd (hd b (Int.ofNat_dvd_left.2 (Nat.gcd_dvd_right _ _)))).symm⟩
def Ugp(a b:Int)(hb1:0<b)(ha:WL a.natAbs 536870912)(hb:WL b.natAbs 536870912):PureC prog 166 [Qdu (a),Qdu (b)] ((Qew (Rat.divInt a b))):=by
  have hb0:b≠0:=by omega
  have hg0:0<Nat.gcd a.natAbs b.natAbs:=Nat.gcd_pos_of_pos_right _ (by omega);have hgl:WL (Nat.gcd a.natAbs b.natAbs) 536870912:=Qfc (Nat.gcd_le_right _ (by omega)) hb;obtain⟨e1,e2⟩:=Qvh (a:=a) (b:=b) hb0 _ rfl;rw[if_neg (show ¬b<0 by omega)] at e1 e2;have d1:=Qym a ((Nat.gcd a.natAbs b.natAbs:Nat):Int) (by omega) ha hgl.i;have d2:=Qym b ((Nat.gcd a.natAbs b.natAbs:Nat):Int) (by omega) hb hgl.i;rw[e1] at d1;rw[e2,Qhv] at d2;exact Qaw (hp:=false) (L:=cz (a)++cz (b)++cz (((Nat.gcd a.natAbs b.natAbs:Nat):Int))++[gx (.int .i64 (b.sign))]++cz (a%((Nat.gcd a.natAbs b.natAbs:Nat):Int))++cz (b%((Nat.gcd a.natAbs b.natAbs:Nat):Int))++cF (Rat.divInt a b)) Qae Qai
    [gp 234 [.row [.sym 0,.sym 1],.row [.sym 2,.sym 3]] (.r (.row [.sym 4,.sym 5])) eo234 (Uya a b ha hb) rfl rfl,gp 193 [.row [.sym 2,.sym 3]] (.r (.c (.sym 6))) eo193 (Qyp b) rfl rfl,gp 243 [.row [.sym 0,.sym 1],.row [.sym 4,.sym 5]] (.tup [.row [.sym 11,.sym 12],.row [.sym 7,.sym 8]]) eo243 (d1) rfl rfl,gp 243 [.row [.sym 2,.sym 3],.row [.sym 4,.sym 5]] (.tup [.row [.lit (.bool false),.sym 13],.row [.sym 9,.sym 10]]) eo243 (d2) rfl rfl]
    [Qgb .lss 3 .i64 (.sym 6) (.lit (.int .i64 0)) b.sign 0 false (by rw[axn hb1];rfl) rfl rfl] []
    func166 100 [.row [.sym 0,.sym 1],.row [.sym 2,.sym 3]] (.r (.row [.sym 11,.sym 12,.lit (.bool false),.sym 13])) kR rfl rfl
def Ugo(a b:Int)(hb1:b<0)(ha:WL a.natAbs 536870912)(hb:WL b.natAbs 536870912):PureC prog 166 [Qdu (a),Qdu (b)] ((Qew (Rat.divInt a b))):=by
  have hb0:b≠0:=by omega
  have hg0:0<Nat.gcd a.natAbs b.natAbs:=Nat.gcd_pos_of_pos_right _ (by omega);have hgl:WL (Nat.gcd a.natAbs b.natAbs) 536870912:=Qfc (Nat.gcd_le_right _ (by omega)) hb;obtain⟨e1,e2⟩:=Qvh (a:=a) (b:=b) hb0 _ rfl;rw[if_pos (show b<0 by omega)] at e1 e2;have d1:=Qym a (-((Nat.gcd a.natAbs b.natAbs:Nat):Int)) (by omega) ha hgl.i.neg;have d2:=Qym b (-((Nat.gcd a.natAbs b.natAbs:Nat):Int)) (by omega) hb hgl.i.neg;rw[e1] at d1;rw[e2,Qhv] at d2;exact Qaw (hp:=false) (L:=cz (a)++cz (b)++cz (((Nat.gcd a.natAbs b.natAbs:Nat):Int))++[gx (.int .i64 (b.sign))]++cz (-((Nat.gcd a.natAbs b.natAbs:Nat):Int))++cz (a % -((Nat.gcd a.natAbs b.natAbs:Nat):Int))++cz (b % -((Nat.gcd a.natAbs b.natAbs:Nat):Int))++cF (Rat.divInt a b)) Qae Qai
    [gp 234 [.row [.sym 0,.sym 1],.row [.sym 2,.sym 3]] (.r (.row [.sym 4,.sym 5])) eo234 (Uya a b ha hb) rfl rfl,gp 193 [.row [.sym 2,.sym 3]] (.r (.c (.sym 6))) eo193 (Qyp b) rfl rfl,gp 219 [.row [.sym 4,.sym 5]] (.r (.row [.sym 7,.sym 8])) eo219 (Uyb _) rfl rfl,gp 243 [.row [.sym 0,.sym 1],.row [.sym 7,.sym 8]] (.tup [.row [.sym 13,.sym 14],.row [.sym 9,.sym 10]]) eo243 (d1) rfl rfl,gp 243 [.row [.sym 2,.sym 3],.row [.sym 7,.sym 8]] (.tup [.row [.lit (.bool false),.sym 15],.row [.sym 11,.sym 12]]) eo243 (d2) rfl rfl]
    [Qgb .lss 3 .i64 (.sym 6) (.lit (.int .i64 0)) b.sign 0 true (by rw[axo hb1];rfl) rfl rfl] []
    func166 100 [.row [.sym 0,.sym 1],.row [.sym 2,.sym 3]] (.r (.row [.sym 13,.sym 14,.lit (.bool false),.sym 15])) kR rfl rfl
def fof(a b:Int)(hb0:b≠0)(ha:WL a.natAbs 536870912)(hb:WL b.natAbs 536870912):PureC prog 166 [Qdu a,Qdu b] (Qew (Rat.divInt a b)):=by
 rcases(show b<0\/0<b by omega) with h|h
 .exact Ugo a b h ha hb
 .exact Ugp a b h ha hb
def Qkn(x:Int)(n:Nat)(hx:WL x.natAbs 1073741824)(hn:WL n 1073741824):PureC prog 156 [Qdu x,Ugj n] (Qdu (x*(n:Int))):=by
 have:=Kjf x n hx hn.i;rwa[Qhv] at this
def Kti(n:Nat)(x:Int)(hx:WL x.natAbs 1073741824)(hn:WL n 1073741824):PureC prog 156 [Ugj n,Qdu x] (Qdu ((n:Int)*x)):=by
 have:=Kjf n x hn.i hx;rwa[Qhv] at this
def Kcj(m n:Nat)(hm:WL m 1073741824)(hn:WL n 1073741824):PureC prog 156 [Ugj m,Ugj n] (Qdu ((m:Int)*(n:Int))):=by
 have:=Kjf m n hm.i hn.i;rwa[Qhv,Qhv] at this
def Klf(x y:Rat)(hx:RL x 134217728)(hy:RL y 134217728):PureC prog 137 [Qew (x),Qew (y)] ((Qew (x+y))):=by
  have ha:=WL.mul hx.wn hy.wd.i;have hb:=WL.mul hy.wn hx.wd.i;have hd:=WL.mul hx.wd.i hy.wd.i;have ho:=fof (x.num*(y.den:Int)+y.num*(x.den:Int)) ((x.den:Int)*(y.den:Int)) (Int.mul_ne_zero Qfr Qfr) ((ha.add hb).mono (by decide)) (hd.mono (by decide));rw[Qoe] at ho;exact Qaw (hp:=false) (L:=cF (x)++cF (y)++cz (x.num*(y.den:Int))++cz (y.num*(x.den:Int))++cz (x.num*(y.den:Int)+y.num*(x.den:Int))++cz ((x.den:Int)*(y.den:Int))++cF (x+y)) Qae Qai
    [gp 156 [.row [.sym 0,.sym 1],.row [.lit (.bool false),.sym 5]] (.r (.row [.sym 6,.sym 7])) eo156 (Qkn _ _ (hx.wn.mono (by decide)) (hy.wd.mono (by decide))) rfl rfl,gp 156 [.row [.sym 3,.sym 4],.row [.lit (.bool false),.sym 2]] (.r (.row [.sym 8,.sym 9])) eo156 (Qkn _ _ (hy.wn.mono (by decide)) (hx.wd.mono (by decide))) rfl rfl,gp 218 [.row [.sym 6,.sym 7],.row [.sym 8,.sym 9]] (.r (.row [.sym 10,.sym 11])) eo218 (Ujb _ _ (ha.mono (by decide)) (hb.mono (by decide))) rfl rfl,gp 156 [.row [.lit (.bool false),.sym 2],.row [.lit (.bool false),.sym 5]] (.r (.row [.sym 12,.sym 13])) eo156 (Kcj _ _ (hx.wd.mono (by decide)) (hy.wd.mono (by decide))) rfl rfl,gp 166 [.row [.sym 10,.sym 11],.row [.sym 12,.sym 13]] (.r (.row [.sym 14,.sym 15,.lit (.bool false),.sym 16])) eo166 (ho) rfl rfl]
    [] []
    func137 100 [.row [.sym 0,.sym 1,.lit (.bool false),.sym 2],.row [.sym 3,.sym 4,.lit (.bool false),.sym 5]] (.r (.row [.sym 14,.sym 15,.lit (.bool false),.sym 16])) kR rfl rfl
def Qmy(x y:Rat)(hx:RL x 134217728)(hy:RL y 134217728):PureC prog 135 [Qew (x),Qew (y)] ((Qew (x*y))):=by
  have ho:=fof (x.num*y.num) ((x.den:Int)*(y.den:Int)) (Int.mul_ne_zero Qfr Qfr) ((WL.mul hx.wn hy.wn).mono (by decide)) ((WL.mul hx.wd.i hy.wd.i).mono (by decide));rw[Qon] at ho;exact Qaw (hp:=false) (L:=cF (x)++cF (y)++cz (x.num*y.num)++cz ((x.den:Int)*(y.den:Int))++cF (x*y)) Qae Qai
    [gp 156 [.row [.sym 0,.sym 1],.row [.sym 3,.sym 4]] (.r (.row [.sym 6,.sym 7])) eo156 (Kjf _ _ (hx.wn.mono (by decide)) (hy.wn.mono (by decide))) rfl rfl,gp 156 [.row [.lit (.bool false),.sym 2],.row [.lit (.bool false),.sym 5]] (.r (.row [.sym 8,.sym 9])) eo156 (Kcj _ _ (hx.wd.mono (by decide)) (hy.wd.mono (by decide))) rfl rfl,gp 166 [.row [.sym 6,.sym 7],.row [.sym 8,.sym 9]] (.r (.row [.sym 10,.sym 11,.lit (.bool false),.sym 12])) eo166 (ho) rfl rfl]
    [] []
    func135 100 [.row [.sym 0,.sym 1,.lit (.bool false),.sym 2],.row [.sym 3,.sym 4,.lit (.bool false),.sym 5]] (.r (.row [.sym 10,.sym 11,.lit (.bool false),.sym 12])) kR rfl rfl
def Kel(x y:Rat)(hy:y≠0):Rat.divInt (x.num*(y.den:Int)) ((x.den:Int)*y.num)=x/y:=by
 rw[Rat.div_def,<-Qks]
 conv=>rhs;lhs;rw[<-Rat.num_divInt_den x]
 rw[Rat.divInt_mul_divInt]
def Unm(x y:Rat)(hx:RL x 134217728)(hy:RL y 134217728)(h0:y≠0):PureC prog 139 [Qew (x),Qew (y)] ((Qew (x/y))):=by
  have hn0:y.num≠0:=fun h=>h0 (Rat.num_eq_zero.1 h)
  have ho:=fof (x.num*(y.den:Int)) ((x.den:Int)*y.num) (Int.mul_ne_zero Qfr hn0) ((WL.mul hx.wn hy.wd.i).mono (by decide)) ((WL.mul hx.wd.i hy.wn).mono (by decide));rw[Kel x y h0] at ho;exact Qaw (hp:=false) (L:=cF (x)++cF (y)++cz (x.num*(y.den:Int))++cz ((x.den:Int)*y.num)++cF (x/y)) Qae Qai
    [gp 156 [.row [.sym 0,.sym 1],.row [.lit (.bool false),.sym 5]] (.r (.row [.sym 6,.sym 7])) eo156 (Qkn _ _ (hx.wn.mono (by decide)) (hy.wd.mono (by decide))) rfl rfl,gp 156 [.row [.lit (.bool false),.sym 2],.row [.sym 3,.sym 4]] (.r (.row [.sym 8,.sym 9])) eo156 (Kti _ _ (hy.wn.mono (by decide)) (hx.wd.mono (by decide))) rfl rfl,gp 166 [.row [.sym 6,.sym 7],.row [.sym 8,.sym 9]] (.r (.row [.sym 10,.sym 11,.lit (.bool false),.sym 12])) eo166 (ho) rfl rfl]
    [] []
    func139 100 [.row [.sym 0,.sym 1,.lit (.bool false),.sym 2],.row [.sym 3,.sym 4,.lit (.bool false),.sym 5]] (.r (.row [.sym 10,.sym 11,.lit (.bool false),.sym 12])) kR rfl rfl
def Unl(x:Rat):PureC prog 144 [Qew x] (Qew (-x)):=by
 have hn:=Uyb x.num;rw[<-Rat.neg_num] at hn;exact Qaw (hp:=false) (L:=cF (x)++cz ((-x).num)) Qae Qai
  [gp 219 [.row [.sym 0,.sym 1]] (.r (.row [.sym 3,.sym 4])) eo219 (hn) rfl rfl]
  [] []
  func144 100 [.row [.sym 0,.sym 1,.lit (.bool false),.sym 2]] (.r (.row [.sym 3,.sym 4,.lit (.bool false),.sym 2])) kR rfl rfl
def Ucu(x y:Rat)(hx:RL x 134217728)(hy:RL y 134217728):PureC prog 140 [Qew (x),Qew (y)] ((Qew (x-y))):=by
  have hp:=Klf x (-y) hx (Qah hy);rw[<-Rat.sub_eq_add_neg] at hp;exact Qaw (hp:=false) (L:=cF (x)++cF (y)++cF (-y)++cF (x-y)) Qae Qai
    [gp 144 [.row [.sym 3,.sym 4,.lit (.bool false),.sym 5]] (.r (.row [.sym 6,.sym 7,.lit (.bool false),.sym 8])) eo144 (Unl y) rfl rfl,gp 137 [.row [.sym 0,.sym 1,.lit (.bool false),.sym 2],.row [.sym 6,.sym 7,.lit (.bool false),.sym 8]] (.r (.row [.sym 9,.sym 10,.lit (.bool false),.sym 11])) eo137 (hp) rfl rfl]
    [] []
    func140 100 [.row [.sym 0,.sym 1,.lit (.bool false),.sym 2],.row [.sym 3,.sym 4,.lit (.bool false),.sym 5]] (.r (.row [.sym 9,.sym 10,.lit (.bool false),.sym 11])) kR rfl rfl
def Kaq(x:Rat):PureC prog 107 [Qew (x)] ((.int .i64 (x.num.sign))):=by
 exact Qaw (hp:=false) (L:=cF (x)++[gx (.int .i64 (x.num.sign))]) Qae Qai
  [gp 193 [.row [.sym 0,.sym 1]] (.r (.c (.sym 3))) eo193 (Qyp _) rfl rfl]
  [] []
  func107 100 [.row [.sym 0,.sym 1,.lit (.bool false),.sym 2]] (.r (.c (.sym 3))) kR rfl rfl
def Utw(n:Int)(h1:-9223372036854775808<=n)(h2:n<9223372036854775808):PureC prog 51 [.int .i64 (n)] ((Qew ((n:Rat)))):=by
  have h:=sof 1 (by decide) (by decide);rw[show(1:Int)=((1:Nat):Int) from rfl,Qhv] at h;exact Qaw (hp:=false) (L:=[gx (.int .i64 (n))]++cF ((n:Rat))) Qae Qai
    [gp 145 [.c (.sym 0)] (.r (.row [.sym 1,.sym 2])) eo145 (sof n h1 h2) rfl rfl,gp 145 [.c (.lit (.int .i64 1))] (.r (.row [.lit (.bool false),.sym 3])) eo145 (h) rfl rfl]
    [] []
    func51 100 [.c (.sym 0)] (.r (.row [.sym 1,.sym 2,.lit (.bool false),.sym 3])) kR rfl rfl
def Kjd{s:ByteArray}(h:s.size=0):s=⟨#[]⟩:=by
 apply ByteArray.ext;apply Array.eq_empty_of_size_eq_zero;exact h
def OkW(neg:Bool)(s:ByteArray):Prop:=Qka neg s/\s.size<=16384
def Kln:Qrp ⟨#[]⟩:=fun x l h=>by simp at h
def Kau{s:ByteArray}(hs:0<s.size):Qrp s↔s[0].toNat≠0:=by
  have e:s.data.toList=s[0]::s.data.toList.tail:=by
    cases h:s.data.toList with
    | nil => have : s.data.toList.length = s.size := by simp
             rw[h] at this;simp at this;omega
    | cons x l =>
      have h0:s.data[0]?=some x:=by rw[<-Array.getElem?_toList,h];rfl
      have h1:s[0]=x:=by
        have h2:s.data[0]?=some s[0]:=Array.getElem?_eq_getElem hs;rw[h2] at h0;simpa using h0
      rw[h1];rfl
  constructor
  · intro h hx;exact h _ _ e (UInt8.toNat_inj.1 hx)
  · intro h x l hl hx;rw[e] at hl;simp at hl;rw[<-hl.1] at hx;exact h (by rw[hx];rfl)
def Qey(v:Value):Prop:=∃ q:Rat,v=Qew q/\(Qcg q.num.natAbs).size<=1024/\(Qcg q.den).size<=1024
def Khx(z:Int)(h:(Qcg z.natAbs).size<=16384):OkW (decide (z<0)) (Qcg z.natAbs):=by
 refine⟨⟨fun h0=>?_,Qge _⟩,h⟩;have:z.natAbs=0:=by
  have:=(Qki (Qge z.natAbs)).2 h0;rwa[Qdy] at this
 have:z=0:=by omega
 subst this;rfl
def Qdd{q:Rat}{n1 n2:Bool}{s1 s2:ByteArray}(h:Value.agg #[.bool n1,.string s1,.bool n2,.string s2]=Qew q):n1=decide (q.num<0)/\s1=Qcg q.num.natAbs/\n2=false/\s2=Qcg q.den:=by
 unfold Qew at h;simpa using h
def Kdt{q:Rat}{n1 n2:Bool}{s1 s2:ByteArray}(h:Value.agg #[.bool n1,.string s1,.bool n2,.string s2]=Qew q):Rat.divInt (sgn n1 (Qjp s1)) (sgn n2 (Qjp s2))=q:=by
 obtain⟨rfl,rfl,rfl,rfl⟩:=Qdd h;rw[Qdy,Qdy,Qrl];show Rat.divInt q.num ((q.den:Nat):Int)=q;exact Rat.num_divInt_den q
def Qtk{a b:ByteArray}:a.toList=b.toList↔a=b:=by
 rw[ByteArray.toList_eq,ByteArray.toList_eq];constructor
 .intro h;cases a;cases b;simp_all
 .rintro rfl;rfl
def Qts{n:Nat}{s:ByteArray}(h:Qjp s=n):(Qac n).length<=s.size:=by
 subst h;exact Qal (axc (Kef s) (Nat.pow_le_pow_left (by decide) _))
def Umh(n:Int){k:Nat}(h:(Qac n.natAbs).length<=k)(hk:1<=k):RL (n:Rat) k:=by
 refine⟨?_,?_⟩
 .rw[Rat.num_intCast];exact h
 .rw[Rat.den_intCast];exact axw (Qal (k:=1) (by decide)) hk
def Qml(n:Int)(h0:-9223372036854775808<=n)(h1:n<9223372036854775808):RL (n:Rat) 2:=Umh n (Qal (k:=2) (by omega)) (by decide)
def Qxm(q:Rat):∃ b1 t1 t2,Qew q=.agg #[.bool b1,.string t1,.bool false,.string t2]:=⟨_,_,_,rfl⟩
def Kgi(n:Int)(hn0:-9223372036854775808<=n)(hn1:n<9223372036854775808)(w:World) :
  Calls prog 171 #[.int .i64 n] w fun e w'=>e=.returned (Qew n)/\Below w.heap.size w w':=by
 have HA:=hid (show Below w.heap.size w (w.alloc (.cells #[.bool false,.string ⟨#[]⟩,.bool false,.string ⟨#[]⟩] 26)) from br.alloc lr _);have HS:=hid (Qxb (w.heap.size+1) _ n hn0 hn1 ((w.alloc (.cells #[.bool false,.string ⟨#[]⟩,.bool false,.string ⟨#[]⟩] 26)).alloc zR) (by have:=heap_alloc_new (w.alloc (.cells #[.bool false,.string ⟨#[]⟩,.bool false,.string ⟨#[]⟩] 26)) zR;simpa using this) (by decide) Qdg)
 go_enter func171,Tryz.ntmps171
 go_wp2_with fail
 refine HS.out.mono ?_;rintro e w1 ⟨rfl,hp⟩;have hr:=(hp.ratP (Qbt _)).noA;have HT:=hid (Ubm _ _ NoA w1 hr ((Qml n hn0 hn1).mono (by decide)));have hz:(w.alloc (.cells #[.bool false,.string ⟨#[]⟩,.bool false,.string ⟨#[]⟩] 26)).heap.size=w.heap.size+1:=by simp
 have hb1:=Qgh (by rw[hz];exact hp.1);clear HS hp hr
 go_wp2_with fail
 refine HT.out.mono ?_;rintro e w2 ⟨rfl,hb2⟩;have hb12:=hb1.trans (hb2.mono hb1.size);obtain⟨e0,e1,e2,e3,f0,f1,f2,f3⟩:=Qkw w _ _ _ _ _ hb12;have HB:=hid (HA.out.trans (hb12.mono (by simp)));obtain⟨b1,t1,t2,he⟩:=Qxm n;have HE:=hid he;rw[he];clear he hb1 hb2 hb12 HT hz
 go_wp2_with fail
 refine bodyPost_ret (v:=.agg #[.bool b1,.string t1,.bool false,.string t2]) (by simp[results,Tryz.results171,go_sem,e0,e1,e2,e3]) rfl ⟨by rw[HE.out],?_⟩;exact((((HB.out.setCell (p:=⟨w.heap.size,0,none⟩) lr _).setCell (p:=⟨w.heap.size,1,none⟩) lr _).setCell (p:=⟨w.heap.size,2,none⟩) lr _).setCell (p:=⟨w.heap.size,3,none⟩) lr _)
def Kle(neg:Bool)(s:ByteArray)(r:Bool)(hr:r=true↔Qka neg s)(w:World) :
  Calls prog 221 #[.agg #[.bool neg,.string s]] w fun e w'=>e=.returned (.bool r)/\Below w.heap.size w w':=by
 have HB:=hid (show Below w.heap.size w (w.alloc (.cells #[.bool neg,.string s] 24)) from br.alloc lr _);rcases axh s.size with h0|h0
 .have:=Kjd h0;subst this;have hr2:r=!neg:=by
   have:Qka neg ⟨#[]⟩↔neg=false:=⟨fun h=>h.1 rfl,fun h=>⟨fun _=>h,Kln⟩⟩
   rw[this] at hr;cases neg<;>cases r<;>simp_all
  subst hr2;clear hr h0
  go_enter func221,Tryz.ntmps221
  go_wp2
  all_goals go_ret
  all_goals exact⟨rfl,HB.out⟩
 .have hne:¬s.toList=[]:=fun h=>by
   have h2:s.toList.length=s.size:=by rw[ByteArray.toList_eq];simp
   rw[h] at h2;simp at h2;omega
  have hne2:s.toList.isEmpty=false:=by simpa using hne
  have hr2:r=((s[0].toNat:Int) != 0):=by
   have h1:Qka neg s↔s[0].toNat≠0:=⟨fun h=>(Kau h0).1 h.2,fun h=>⟨fun h=>by omega,(Kau h0).2 h⟩⟩
   rw[h1] at hr
   by_cases h:s[0].toNat=0
   .rw[h] at hr ⊢;cases r;rfl;simp at hr
   .have h3:((s[0].toNat:Int) != 0)=true:=by simpa using h
    rw[h3];exact hr.2 h
  subst hr2;clear hr hne
  go_enter func221,Tryz.ntmps221
  go_wp2
  all_goals go_ret
  all_goals exact⟨rfl,HB.out⟩
def Qmp{x y:Int}:Qgs x y=0↔x=y:=by unfold Qgs;split;omega;split<;>omega
def Kap{n1:Bool}{s1 s2:ByteArray}(h1:Qka n1 s1)(h2:Qka false s2){q:Rat} :
  Value.agg #[.bool n1,.string s1,.bool false,.string s2]=Qew q↔q.num=sgn n1 (Qjp s1)/\(q.den:Int)=sgn false (Qjp s2):=by
 constructor
 .intro h;obtain⟨a,b,c,d⟩:=Qdd h;refine⟨?_,?_⟩
  .rw[a,b,Qdy,Qrl]
  .rw[d,Qdy];rfl
 .rintro⟨a,b⟩;have e1:=h1.enc;have e2:=h2.enc;rw[<-a] at e1;rw[<-b] at e2;unfold Qdu at e1 e2;simp only[Value.agg.injEq,Array.mk.injEq,List.cons.injEq,Value.bool.injEq,Value.string.injEq,and_true] at e1 e2;unfold Qew;rw[<-e1.1,<-e1.2,e2.2];simp
open Classical in
noncomputable def Kqe(neg:Bool)(s:ByteArray):Bool:=decide (Qka neg s)
def Qkg{neg:Bool}{s:ByteArray}:Kqe neg s=true↔Qka neg s:=by unfold Kqe;simp
def Utg(v:Value)(base:Nat)(u:Value)(w:World)(A:Nat->Prop):Prop:=(¬Qey v/\u=.pointer none)\/∃ q,v=Qew q/\Qey v/\Uml base q u w A
def Qqp(n1 n2:Bool)(s1 s2:ByteArray)(h1:s1.size<274877906944)(h2:s2.size<274877906944)(w:World) :
  Calls prog 148 #[.agg #[.bool n1,.string s1,.bool n2,.string s2]] w fun e w'=>∃ u,e=.returned u/\Utg (.agg #[.bool n1,.string s1,.bool n2,.string s2]) w.heap.size u w' NoA/\Below w.heap.size w w':=by
 have HF:=hid (fun(w':World) (h:¬Qey (.agg #[.bool n1,.string s1,.bool n2,.string s2]))=>show Utg (.agg #[.bool n1,.string s1,.bool n2,.string s2]) w.heap.size (.pointer none) w' NoA from .inl ⟨h,rfl⟩);have HAL:=hid (show Below w.heap.size w (w.alloc (.cells #[.bool n1,.string s1,.bool n2,.string s2] 26)) from br.alloc lr _);have HP:=hid (fun(h:Qey (.agg #[.bool n1,.string s1,.bool n2,.string s2]))=>show Qka n1 s1/\Qka n2 s2/\s1.size<=1024/\s2.size<=1024/\n2=false/\0<s2.size by
  obtain⟨q,e,k1,k2⟩:=h;obtain⟨rfl,rfl,rfl,rfl⟩:=Qdd e;refine⟨(Khx _ (by omega)).1,?_,k1,k2,rfl,?_⟩
  .have:=(Khx (q.den:Int) (by simp;omega)).1;rw[show decide ((q.den:Int)<0)=false by simp] at this;simpa using this
  .rcases axh (Qcg q.den).size with h0|h0
   .have:=(Qki (Qge q.den)).2 h0;rw[Qdy] at this;exact absurd this q.den_nz
   .exact h0)
 have HK:=hid (fun n s w=>Kle n s (Kqe n s) Qkg w)
 go_enter func148,Tryz.ntmps148
 go_wp2_with fail
 refine(HK.out n1 s1 _).mono ?_;rintro e w1 ⟨rfl,hb1⟩;obtain⟨e0,e1,e2,e3,_⟩:=Qkw w _ _ _ _ _ hb1;cases c1:Kqe n1 s1
 .go_wp2
  go_ret
  exact⟨_,rfl,HF.out _ (fun hk=>by have:=Qkg.2 (HP.out hk).1;rw[c1] at this;cases this),HAL.out.trans (hb1.mono (by simp))⟩
 .go_wp2_with fail
  refine(HK.out n2 s2 _).mono ?_;rintro e w2 ⟨rfl,hb2⟩;have hb12:=hb1.trans (hb2.mono hb1.size);clear e0 e1 e2 e3;obtain⟨e0,e1,e2,e3,_⟩:=Qkw w _ _ _ _ _ hb12;cases c2:Kqe n2 s2
  .go_wp2
   go_ret
   exact⟨_,rfl,HF.out _ (fun hk=>by have:=Qkg.2 (HP.out hk).2.1;rw[c2] at this;cases this),HAL.out.trans (hb12.mono (by simp))⟩
  .cases n2
   .rcases axh s2.size with h0|h0
    .have h00:=Kjd h0;subst h00
     go_wp2
     all_goals go_ret
     all_goals exact⟨_,rfl,HF.out _ (fun hk=>by have:=(HP.out hk).2.2.2.2.2;exact absurd this (by decide)),HAL.out.trans (hb12.mono (by simp))⟩
    .have hne:s2.toList.isEmpty=false:=by
      have h2:s2.toList.length=s2.size:=by rw[ByteArray.toList_eq];simp
      cases h:s2.toList
      .rw[h] at h2;simp at h2;omega
      .rfl
     by_cases c3:(1024:Int)<(s1.size:Int)
     .go_wp2
      all_goals go_ret
      all_goals exact⟨_,rfl,HF.out _ (fun hk=>by have:=(HP.out hk).2.2.1;omega),HAL.out.trans (hb12.mono (by simp))⟩
     .by_cases c4:(1024:Int)<(s2.size:Int)
      .go_wp2
       all_goals go_ret
       all_goals exact⟨_,rfl,HF.out _ (fun hk=>by have:=(HP.out hk).2.2.2.1;omega),HAL.out.trans (hb12.mono (by simp))⟩
      .have hlt:w.heap.size<w2.heap.size:=by have:=hb12.size;simp at this;omega
       have HQ:=hid (And.intro (Qkg.1 c1) (And.intro (Qkg.1 c2) (And.intro h0 (HAL.out.trans (hb12.mono (by simp))))));clear c1 c2 hb1 hb2 hb12 HAL HK HP
       go_wp2_with fail
       obtain⟨zn,hzn⟩:∃ zn,zn=sgn n1 (Qjp s1):=⟨_,rfl⟩
       obtain⟨zd,hzd⟩:∃ zd,zd=sgn false (Qjp s2):=⟨_,rfl⟩
       have hN1:=fun w=>Qvk n1 s1 h1 w
       have hN2:=fun w=>Qvk false s2 h2 w
       rw[<-hzn] at hN1;rw[<-hzd] at hN2;have hd0:zd≠0:=fun h=>by
        have h3:Qjp s2=0:=by rw[hzd] at h;unfold sgn at h;simpa using h
        have:=(Qki HQ.out.2.1.2).1 h3;omega
       have l1:(Qac zn.natAbs).length<=1024:=by rw[hzn,Qdi];exact axw (Qts rfl) (by omega)
       have l2:(Qac zd.natAbs).length<=1024:=by rw[hzd,Qdi];exact axw (Qts rfl) (by omega)
       have HI:=hid (fun q=>Kap HQ.out.1 HQ.out.2.1 (q:=q));have HZ:=hid (And.intro hzn hzd);have hsz:s1.size<=1024/\s2.size<=1024:=by omega
       rw[<-hzn,<-hzd] at HI;have HG:=hid (And.intro hN1 (And.intro hN2 (And.intro hd0 (And.intro l1 (And.intro l2 hsz)))));have hBw:=HQ.out.2.2.2;clear hN1 hN2 hzn hzd hd0 l1 l2 hsz HQ;refine Qav [(.lit,[]),(.lit,[]),(.val,[]),(.lit,[]),(.lit,[]),(.val,[])]
        (Qfj [(2,Qce zn),(5,Qce zd)]) kR ?_ ?_ (by simp) (by simp) kR
       .exact Qbh (by simp[Qce.keeps])
       .repeat (refine⟨_,fun f w1 h1=>by(have d0:=ct h1 hlt e0;have d1:=ct h1 hlt e1;have d2:=ct h1 hlt e2;have d3:=ct h1 hlt e3;go_simp;rfl),?_⟩)
        simp only[Act.put,nrA,nrB,nrC,Nat.reduceAdd];refine⟨fun f w1 A1 k1 hA hN hd K hK=>by
         go_simp
         refine(HG.out.1 w1).mono ?_;rintro e w' ⟨v,rfl,hn⟩;exact hK _ _ hn.1 (hn.2 A1 hA),?_⟩
        repeat (refine⟨_,fun f w1 h1=>by(have d0:=ct h1 hlt e0;have d1:=ct h1 hlt e1;have d2:=ct h1 hlt e2;have d3:=ct h1 hlt e3;go_simp;rfl),?_⟩)
        simp only[Act.put,nrA,nrB,nrC,Nat.reduceAdd];refine⟨fun f w1 A1 k1 hA hN hd K hK=>by
         go_simp
         refine(HG.out.2.1 w1).mono ?_;rintro e w' ⟨v,rfl,hn⟩;exact hK _ _ hn.1 (hn.2 A1 hA),?_⟩
        intro f w3 k3 hF;have i1:Qce zn (f 2) w3 NoA:=hF.1.2;have i2:Qce zd (f 5) w3 NoA:=hF.2;clear hF;simp only[Act.put,nrA,nrB,nrC];generalize f 2=vn at *
        generalize f 5=vd at *
        have hb3:Below w.heap.size w w3:=hBw.trans ((br.drew.trans k3).mono hBw.size);clear e0 e1 e2 e3 hlt hBw k3;have hal:=(Below.refl w3.heap.size w3).alloc lr zR;have HS:=hid (Qez w3.heap.size _ zn zd HG.out.2.2.1 vn vd NoA (w3.alloc zR) (heap_alloc_new w3 _) (by decide) Qdg (i1.below hal) (i2.below hal) (by have:=HG.out.2.2.2.1;omega) (by have:=HG.out.2.2.2.2.1;omega));have HJ:=hid (And.intro i1 (And.intro i2 hb3));clear i1 i2 hb3 hal
        go_wp2_with fail
        refine HS.out.mono ?_;rintro e w4 ⟨rfl,hp4⟩;obtain⟨q,hq⟩:∃ q,q=Rat.divInt zn zd:=⟨_,rfl⟩
        rw[<-hq] at hp4;have hr4:=(hp4.ratP (Qbt _)).noA;have hb34:Below w3.heap.size w3 w4:=Qgh hp4.1;have hql:RL q 1024:=by rw[hq];exact Qjz HG.out.2.2.1 HG.out.2.2.2.1 HG.out.2.2.2.2.1
        have HI2:=hid (fun q' (h:Value.agg #[.bool n1,.string s1,.bool false,.string s2]=Qew q')=>show q'=q by rw[hq,HZ.out.1,HZ.out.2];exact(Kdt h).symm);have HN:=hid (Qwz q _ NoA w4 hr4 (hql.mono (by decide)));have HR4:=hid (And.intro hr4 (And.intro hb34 hql));clear HS hq hp4 hr4 hb34 hql
        go_wp2_with fail
        refine HN.out.mono ?_;rintro e w5 ⟨v5,rfl,hn5⟩;have HC:=hid (Qwy q.num zn v5 vn NoA w5 (hn5.2 NoA (Qbt _)) ((HJ.out.1.below HR4.out.2.1).below hn5.1) (by have:=HR4.out.2.2.1;omega) (by have:=HG.out.2.2.2.1;omega))
        go_wp2_with fail
        refine HC.out.mono ?_;rintro e w6 ⟨rfl,hb6⟩;have hb46:Below w4.heap.size w4 w6:=hn5.1.trans (hb6.mono hn5.1.size);clear HN HC hn5 hb6
        by_cases c5:Qgs q.num zn=0
        .have HD:=hid (Qmj q _ NoA w6 (HR4.out.1.below hb46) (HR4.out.2.2.mono (by decide)));rw[c5]
         go_wp2_with fail
         refine HD.out.mono ?_;rintro e w7 ⟨v7,rfl,hn7⟩;have hb47:=hb46.trans (hn7.1.mono hb46.size);have HC:=hid (Qwy q.den zd v7 vd NoA w7 (hn7.2 NoA (Qbt _)) ((HJ.out.2.1.below HR4.out.2.1).below hb47) (by have:=HR4.out.2.2.2;simp;omega) (by have:=HG.out.2.2.2.2.1;omega))
         go_wp2_with fail
         refine HC.out.mono ?_;rintro e w8 ⟨rfl,hb8⟩;have hb48:=hb47.trans (hb8.mono hb47.size);clear HD HC hn7 hb8 hb47
         by_cases c6:Qgs q.den zd=0
         .rw[c6]
          go_wp2
          go_ret
          have he:=(HI.out q).2 ⟨Qmp.1 c5,Qmp.1 c6⟩;obtain⟨_,a,_,b⟩:=Qdd he;refine⟨_,rfl,.inr ⟨q,he,⟨q,he,?_,?_⟩,w3.heap.size,rfl,HJ.out.2.2.size,HR4.out.1.below hb48⟩,HJ.out.2.2.trans ((HR4.out.2.1.trans (hb48.mono HR4.out.2.1.size)).mono HJ.out.2.2.size)⟩
          .rw[<-a];exact HG.out.2.2.2.2.2.1
          .rw[<-b];exact HG.out.2.2.2.2.2.2
         .have hc6:(Qgs q.den zd != 0)=true:=by simpa using c6
          go_wp2
          all_goals go_ret
          all_goals exact⟨_,rfl,HF.out _ (fun hk=>by
           obtain⟨q',hq',_⟩:=hk;have:=HI2.out q' hq';subst this;exact c6 (Qmp.2 ((HI.out q').1 hq').2)),HJ.out.2.2.trans ((HR4.out.2.1.trans (hb48.mono HR4.out.2.1.size)).mono HJ.out.2.2.size)⟩
        .have hc5:(Qgs q.num zn != 0)=true:=by simpa using c5
         go_wp2
         all_goals go_ret
         all_goals exact⟨_,rfl,HF.out _ (fun hk=>by
          obtain⟨q',hq',_⟩:=hk;have:=HI2.out q' hq';subst this;exact c5 (Qmp.2 ((HI.out q').1 hq').1)),HJ.out.2.2.trans ((HR4.out.2.1.trans (hb46.mono HR4.out.2.1.size)).mono HJ.out.2.2.size)⟩
   .go_wp2
    all_goals go_ret
    all_goals exact⟨_,rfl,HF.out _ (fun hk=>by have:=(HP.out hk).2.2.2.2.1;cases this),HAL.out.trans (hb12.mono (by simp))⟩
abbrev Un(A0 A:Nat->Prop):Nat->Prop:=fun b=>A b\/A0 b
def Qes{A0 A:Nat->Prop}{w:World}(h0:Rcv A0 w)(h:Rcv A w):Rcv (Un A0 A) w:=fun b hb=>hb.elim (h b) (h0 b)
def Qbc(A0:Nat->Prop)(R:Qcq):Qcq:=fun v w A=>R v w (Un A0 A)
def Qbc.keeps{A0:Nat->Prop}{R:Qcq}(h:R.Keeps):(Qbc A0 R).Keeps:=by
 intro v w w' A A' hs hk hR;refine h v w w' _ _ hs (fun b hb hn=>?_) hR;obtain⟨k1,k2⟩:=hk b hb (fun h=>hn (.inl h));exact⟨k1,fun h=>h.elim k2 (fun h=>hn (.inr h))⟩
def Qbc.start{A0:Nat->Prop}{R:Qcq}(h:R.Keeps){v:Value}{w:World}(hR:R v w A0):Qbc A0 R v w NoA :=
 h v w w A0 _ lr (fun b _ hn=>⟨rfl,fun h=>h.elim (fun h=>h.elim) hn⟩) hR
def Qbc.done{A0:Nat->Prop}{R:Qcq}(h:R.Keeps){v:Value}{w:World}(hR:Qbc A0 R v w NoA):R v w A0 :=
 h v w w _ A0 lr (fun b _ hn=>⟨rfl,fun h=>hn (.inr h)⟩) hR
def Qlm.ratU{m base:Nat}{q:Rat}{w w':World}(h:Qlm m q w w'){A0 A:Nat->Prop}(hA0:Rcv A0 w)(hA:Rcv A w)(hm:base<=m)(h0:∀ b,A0 b->b<base):Qbc A0 (Qbk q) (.pointer (some ⟨m,0,none⟩)) w' (fun b=>A b/\b≠m) :=
 (h.ratP (Qes hA0 hA)).wider fun b hb=>hb.elim (fun h=>⟨.inl h.1,h.2⟩) (fun h=>⟨.inr h,fun e=>by have:=h0 b h;omega⟩)
def Qeq(q:Rat):Qcq:=fun v w A=>(v=.pointer none/\q=0)\/Qbk q v w A
def Qeq.keeps(q:Rat):(Qeq q).Keeps:=fun v w w' A A' hs hk h=>h.imp id (Qbk.keeps q v w w' A A' hs hk)
def Qeq.below{q:Rat}{v:Value}{w w':World}{A:Nat->Prop}(h:Qeq q v w A)(hb:Below w.heap.size w w'):Qeq q v w' A:=Qcq.Keeps.below (Qeq.keeps q) hb h
def Qbk.zero{m:Nat}{w:World}{A:Nat->Prop}(h:w.heap[m]?=some zR)(hA:¬A m):Qbk 0 (.pointer (some ⟨m,0,none⟩)) w A:=by
 have hlt:=(axa.1 h).1;have hn:Qjo A w (.slice none 0 0) (Qac 0):=by rw[Qay];exact⟨none,0,rfl,Nat.le_refl _,fun h=>absurd rfl h⟩
 refine⟨m,rfl,⟨m,0,.slice none 0 0,rfl,hlt,hA,by simp[World.cell?,h],by simp[World.cell?,h],hn⟩,.inr ⟨rfl,m,2,.slice none 0 0,rfl,hlt,hA,by simp[World.cell?,h],by simp[World.cell?,h],hn⟩⟩
def Qed(q:Rat)(v:Value)(A:Nat->Prop)(w:World)(hx:Qeq q v w A)(hA:Rcv A w) :
  Calls prog 209 #[v] w fun e w'=>∃ u,e=.returned u/\Below w.heap.size w w'/\Qbk q u w' A:=by
 rcases hx with⟨rfl,rfl⟩|hx
 .have hb:=(Below.refl w.heap.size w).alloc lr zR
  go_enter func209,Tryz.ntmps209
  go_wp2
  go_ret
  exact⟨_,rfl,hb,Qbk.zero (heap_alloc_new w _) (fun h=>by have:=hA.lt h;omega)⟩
 .obtain⟨b,rfl⟩:=hx.shape;have HX:=hid hx;clear hx
  go_enter func209,Tryz.ntmps209
  go_wp2
  go_ret
  exact⟨_,rfl,Below.refl _ _,HX.out⟩
def Qgt(x y:Rat)(vx vy:Value)(A:Nat->Prop)(w:World)(hx:Qeq x vx w A)(hy:Qeq y vy w A)(hA:Rcv A w)(k l:Nat)(hlx:RL x k)(hly:RL y l)(hkl:k+l<137438953472) :
  Calls prog 178 #[vx,vy] w fun e w'=>∃ u,e=.returned u/\Below w.heap.size w w'/\Qbk (x*y) u w' A:=by
 have hal:=(Below.refl w.heap.size w).alloc lr zR;have HA:=hid (And.intro hA hal);have H1:=hid (Qed x vx A (w.alloc zR) (hx.below hal) (hA.below hal));have HY:=hid hy;clear hx hy hal hA
 go_enter func178,Tryz.ntmps178
 go_wp2_with fail
 refine H1.out.mono ?_;rintro e w1 ⟨u1,rfl,hb1,hr1⟩;have hb01:Below w.heap.size w w1:=HA.out.2.trans (hb1.mono (by simp));have H2:=hid (Qed y vy A w1 (HY.out.below hb01) (HA.out.1.below hb01));have HR1:=hid hr1;clear hr1
 go_wp2_with fail
 refine H2.out.mono ?_;rintro e w2 ⟨u2,rfl,hb2,hr2⟩;have hm:w2.heap[w.heap.size]?=some zR:=(hb2.block _ (by have:=hb1.size;simp at this;omega)).trans ((hb1.block _ (by simp)).trans (heap_alloc_new w _));have HM:=hid (Kgn w.heap.size _ x y u1 u2 A w2 hm (by decide) Qdg (HR1.out.below hb2) hr2 k l hlx hly hkl);have HB:=hid (hb01.trans (hb2.mono hb01.size));clear H1 H2 HR1 hb1 hb2 hb01 hr2 hm
 go_wp2_with fail
 refine HM.out.mono ?_;rintro e w3 ⟨rfl,hp⟩;have hn:=hp.newAt HB.out lr;have HN:=hid hn;clear hn hp HM
 go_wp2
 go_ret
 exact⟨_,rfl,HN.out.1,HN.out.2 A HA.out.1⟩
def Qhr(a b:Rat):Qcq:=fun v w A=>∃ u1 u2,v=.agg #[u1,u2]/\Qeq a u1 w A/\Qeq b u2 w A
def Qhr.keeps(a b:Rat):(Qhr a b).Keeps:=fun v w w' A A' hs hk ⟨u1,u2,h1,h2,h3⟩=>⟨u1,u2,h1,Qeq.keeps a _ _ _ _ _ hs hk h2,Qeq.keeps b _ _ _ _ _ hs hk h3⟩
def Qhr.below{a b:Rat}{v:Value}{w w':World}{A:Nat->Prop}(h:Qhr a b v w A)(hb:Below w.heap.size w w'):Qhr a b v w' A:=Qcq.Keeps.below (Qhr.keeps a b) hb h
abbrev Mo(A:Nat->Prop)(n:Nat):Nat->Prop:=fun b=>A b\/b=n
def Qhy(R:Qcq)(hR:R.Keeps){n o:Nat}{A:Nat->Prop}{x y:Value}{w:World}(h:R x w (Mo A n)):R x (w.setCell ⟨n,o,none⟩ y) (Mo A n) :=
 hR _ _ _ _ _ (by simp[World.setCell]) (fun b _ hn=>⟨Below.heap_setCell _ _ _ _ (fun e=>hn (.inr e)),hn⟩) h
def Qnc(R:Qcq)(hR:R.Keeps){n:Nat}{A:Nat->Prop}{x:Value}{w:World}(h:R x w (Mo A n)):R x w A :=
 hR _ _ _ _ _ lr (fun b _ hn=>⟨rfl,fun h=>hn (.inl h)⟩) h
def Qot{a b:Rat}{v1 v2:Value}{w w1:World}{A:Nat->Prop}{n:Nat}(hb:Below w.heap.size w w1)(h1:Qbk a v1 w1 (Mo A n))(h2:Qbk b v2 w1 (Mo A n))(hn:w.heap.size<=n) :
  ∃ u,Ending.returned (.agg #[v1,v2])=.returned u/\Below w.heap.size w ((w1.setCell ⟨n,0,none⟩ v1).setCell ⟨n,1,none⟩ v2)/\Qhr a b u ((w1.setCell ⟨n,0,none⟩ v1).setCell ⟨n,1,none⟩ v2) A:=by
 refine⟨_,rfl,(hb.setCell (p:=⟨n,0,none⟩) hn _).setCell (p:=⟨n,1,none⟩) hn _,v1,v2,rfl,.inr ?_,.inr ?_⟩
 .exact Qnc _ (Qbk.keeps a) (Qhy _ (Qbk.keeps a) (Qhy _ (Qbk.keeps a) h1))
 .exact Qnc _ (Qbk.keeps b) (Qhy _ (Qbk.keeps b) (Qhy _ (Qbk.keeps b) h2))
def Qdl{R:Qcq}(hR:R.Keeps){n:Nat}{A:Nat->Prop}{x:Value}{w w1:World}(hb:Below w.heap.size w w1)(hn:w.heap.size<=n)(h:R x w A):Qbc (Mo A n) R x w1 NoA :=
 hR _ _ _ _ _ hb.size (fun b hlt hna=>⟨hb.block b hlt,fun h=>h.elim (fun h=>h) (fun h=>h.elim hna (fun e=>by omega))⟩) h
def Qxz(v1 v2:Value)(h1:∃ p,v1=.pointer p)(h2:∃ p,v2=.pointer p)(T:TypeId):NoW (.cells #[v1,v2] T (0,0)):=by
 obtain⟨p,rfl⟩:=h1;obtain⟨q,rfl⟩:=h2;intro cs T fr e i k x;cases e;rcases i with _|_|i<;>simp
def Kov(w:World)(u1 u2:Value)(A:Nat->Prop)(hA:Rcv A w) :
  ∃ W,Hid (W=(w.alloc (.cells #[u1,u2] 116)).alloc (.cells #[.pointer none,.pointer none] 116)/\Below w.heap.size w W/\Rcv (Mo A (w.heap.size+1)) W/\∀ w1,Below W.heap.size W w1->w1.cell? ⟨w.heap.size+1,0,none⟩=some (.pointer none)/\w1.cell? ⟨w.heap.size+1,1,none⟩=some (.pointer none)/\w1.frozen? ⟨w.heap.size+1,0,none⟩=false/\w1.frozen? ⟨w.heap.size+1,1,none⟩=false)/\w.heap.size<W.heap.size/\W.cell? ⟨w.heap.size,0,none⟩=some u1/\W.cell? ⟨w.heap.size,1,none⟩=some u2:=by
 have hb1:=(Below.refl (w.alloc (.cells #[u1,u2] 116)).heap.size (w.alloc (.cells #[u1,u2] 116))).alloc lr (.cells #[.pointer none,.pointer none] 116);have hb:Below w.heap.size w ((w.alloc (.cells #[u1,u2] 116)).alloc (.cells #[.pointer none,.pointer none] 116)):=(br.alloc lr _).alloc (by simp) _;obtain⟨e0,e1,_⟩:=Qij w u1 u2 116 hb1;have hz:(w.alloc (.cells #[u1,u2] 116)).heap.size=w.heap.size+1:=by simp
 have hn:=heap_alloc_new (w.alloc (.cells #[u1,u2] 116)) (.cells #[.pointer none,.pointer none] 116 (0,0));rw[hz] at hn;refine⟨_,hid ⟨rfl,hb,fun b h=>h.elim (fun h=>(hA.below hb) b h) (fun h=>by subst h;exact⟨_,hn,Qxz _ _ ⟨_,rfl⟩ ⟨_,rfl⟩ _⟩),fun w1 h=>?_⟩,by simp;omega,e0,e1⟩;have:=Qij (w.alloc (.cells #[u1,u2] 116)) (.pointer none) (.pointer none) 116 h;rw[hz] at this;exact this
def Kkp(a b s:Rat)(v vs:Value)(A:Nat->Prop)(w:World)(hv:Qhr a b v w A)(hs:Qeq s vs w A)(hA:Rcv A w)(k l:Nat)(hla:RL a k)(hlb:RL b k)(hls:RL s l)(hkl:k+l<137438953472) :
  Calls prog 80 #[v,vs] w fun e w'=>∃ u,e=.returned u/\Below w.heap.size w w'/\Qhr (a*s) (b*s) u w' A:=by
 obtain⟨u1,u2,rfl,h1,h2⟩:=hv;obtain⟨W,HV,hs2,e0,e1⟩:=Kov w u1 u2 A hA;have h1:=Qdl (Qeq.keeps a) (n:=w.heap.size+1) HV.out.2.1 (by omega) h1;have h2:=Qdl (Qeq.keeps b) (n:=w.heap.size+1) HV.out.2.1 (by omega) h2;have hs:=Qdl (Qeq.keeps s) (n:=w.heap.size+1) HV.out.2.1 (by omega) hs;clear hA
 go_enter func80,Tryz.ntmps80
 go_wp2_with fail
 rw[<-HV.out.1];refine Qav [(.lit,[]),(.lit,[]),(.lit,[]),(.val,[]),(.lit,[]),(.lit,[]),(.lit,[]),(.val,[])]
  (Qfj [(3,Qbc (Mo A (w.heap.size+1)) (Qbk (a*s))),(7,Qbc (Mo A (w.heap.size+1)) (Qbk (b*s)))]) kR ?_ ?_ (by simp) (by simp) kR
 .exact Qbh (by simp only[List.mem_cons,List.not_mem_nil,or_false];rintro p (rfl|rfl)<;>exact Qbc.keeps (Qbk.keeps _))
 .repeat (refine⟨_,fun f w1 h1=>by(have d0:=ct h1 hs2 e0;have d1:=ct h1 hs2 e1;go_simp;rfl),?_⟩)
  simp only[Act.put,nrA,nrB,nrC,Nat.reduceAdd];refine⟨fun f w1 A1 k1 hA hN hd K hK=>by
   go_simp
   refine(Qgt a s u1 vs (Un (Mo A (w.heap.size+1)) A1) w1 (Qdk (Qbc.keeps (Qeq.keeps _)) h1 k1 hN) (Qdk (Qbc.keeps (Qeq.keeps _)) hs k1 hN) (Qes (HV.out.2.2.1.below (br.drew.trans k1)) hA) k l hla hls hkl).mono ?_;rintro e w' ⟨v,rfl,hb,hr⟩;exact hK _ _ hb hr,?_⟩
  repeat (refine⟨_,fun f w1 h1=>by(have d0:=ct h1 hs2 e0;have d1:=ct h1 hs2 e1;go_simp;rfl),?_⟩)
  simp only[Act.put,nrA,nrB,nrC,Nat.reduceAdd];refine⟨fun f w1 A1 k1 hA hN hd K hK=>by
   go_simp
   refine(Qgt b s u2 vs (Un (Mo A (w.heap.size+1)) A1) w1 (Qdk (Qbc.keeps (Qeq.keeps _)) h2 k1 hN) (Qdk (Qbc.keeps (Qeq.keeps _)) hs k1 hN) (Qes (HV.out.2.2.1.below (br.drew.trans k1)) hA) k l hlb hls hkl).mono ?_;rintro e w' ⟨v,rfl,hb,hr⟩;exact hK _ _ hb hr,?_⟩
  intro f w1 k1 hF;have i1:Qbk (a*s) (f 3) w1 (Mo A (w.heap.size+1)):=Qbc.done (Qbk.keeps _) hF.1.2;have i2:Qbk (b*s) (f 7) w1 (Mo A (w.heap.size+1)):=Qbc.done (Qbk.keeps _) hF.2;clear hF;simp only[Act.put,nrA,nrB,nrC];generalize f 3=v1 at *
  generalize f 7=v2 at *
  have hb1:Below W.heap.size W w1:=br.drew.trans k1;obtain⟨c0,c1,f0,f1⟩:=HV.out.2.2.2 w1 hb1;have hbw:=HV.out.2.1.trans (hb1.mono HV.out.2.1.size);have HE:=hid (And.intro i1 (And.intro i2 hbw));obtain⟨m1,rfl⟩:=i1.shape;obtain⟨m2,rfl⟩:=i2.shape;clear e0 e1 h1 h2 hs i1 i2 hbw hb1 k1
  go_wp2_with fail
  refine bodyPost_ret (v:=.agg #[.pointer (some ⟨m1,0,none⟩),.pointer (some ⟨m2,0,none⟩)]) (by simp[results,Tryz.results80,go_sem,c0,c1]) rfl ?_;exact Qot HE.out.2.2 HE.out.1 HE.out.2.1 (by omega)
