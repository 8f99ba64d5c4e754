/- Laws for the walk. -/
import Derived.Test.YthklnbaddobieaaGreatVaz
set_option linter.unusedVariables false
set_option maxHeartbeats 4000000
namespace Tr
open Go Go.RowKit
end Tr
namespace Go.Proofs.YthklnbaddobieaaGreat
open Go.RowKit Tr
def WsF(l:List Nat):Fact:=fun v w A=>WSlA A w v l
def gw(l:List Nat):GF where
 R:=WsF l
 int:=false
 keeps:=fun v w w' A A' hs hk h=>WSlA.keep hs hk h
 cell:=fun v w A ⟨p,c,e,_⟩=>by rw[e]; rfl
 noint:=fun _ v w A ⟨p,c,e,_⟩ k x e2=>by rw[e] at e2; cases e2
 ex:=none
 exact:=fun u e=>by cases e
def WL(n k:Nat):Prop:=(words n).length≤k
theorem WL.mono{n j k:Nat}(h:WL n j)(hk:j≤k):WL n k:=Nat.le_trans h hk
theorem WL.size{n k:Nat}(h:WL n k):(strN n).size≤4*k:=by
 rw[size_strN]
 refine byteLE_le (Nat.lt_of_lt_of_le (lt_words n) ?_)
 rw[show(256:Nat) ^ (4*k)=4294967296 ^ k by rw[Nat.pow_mul]]
 exact Nat.pow_le_pow_right (by decide) h
theorem gWords(n:Nat)(hn:WL n 1073741824)(w:World)(A:Nat→Prop)(u:Value)(hR:true=true→Rcv A w)(hu:u=.string (strN n)) :
  Calls Tryz.prog 169 #[u] w fun r w'=>∃ v,r=.returned v∧WsF (words n) v w' A∧Below w.heap.size w w':=by
 subst hu
 exact(swords_any n (by have:=hn.size; omega) w).mono fun e w' ⟨v,h1,h2,h3⟩=>⟨v,h1,h2.avoids ((hR rfl).below h3),h3⟩
theorem gMade(neg:Bool)(n:Nat)(hn:WL n 8589934592)(w:World)(A:Nat→Prop)(u v:Value)(hR:true=true→Rcv A w)(hu:u=.bool neg)(hv:WsF (words n) v w A) :
  Calls Tryz.prog 144 #[u,v] w fun r w'=>r=.returned (encZ (sgn neg n))∧Below w.heap.size w w':=by
 subst hu
 have:=smade_any neg (words n) v w (wok_words n) hv.wsl (by have h1:(words n).length≤8589934592:=hn; omega)
 rw[wv_words] at this
 exact this
theorem gMore(a b:Nat)(ha:WL a 8589934592)(hb:WL b 8589934592)(w:World)(A:Nat→Prop)(u v:Value)(hR:true=true→Rcv A w)(hu:WsF (words a) u w A)(hv:WsF (words b) v w A) :
  Calls Tryz.prog 176 #[u,v] w fun r w'=>∃ v,r=.returned v∧WsF (words (a+b)) v w' A∧Below w.heap.size w w':=by
 have h1:(words a).length≤8589934592:=ha
 have h2:(words b).length≤8589934592:=hb
 have:=smore_any (words a) (words b) u v w (wok_words a) (wok_words b) hu.wsl hv.wsl (by omega) (by omega)
 rw[wv_words,wv_words] at this
 exact this.mono fun e w' ⟨v,h1,h2,h3⟩=>⟨v,h1,h2.avoids ((hR rfl).below h3),h3⟩
theorem gLess(a b:Nat)(hba:b≤a)(ha:WL a 8589934592)(w:World)(A:Nat→Prop)(u v:Value)(hR:true=true→Rcv A w)(hu:WsF (words a) u w A)(hv:WsF (words b) v w A) :
  Calls Tryz.prog 214 #[u,v] w fun r w'=>∃ v,r=.returned v∧WsF (words (a - b)) v w' A∧Below w.heap.size w w':=by
 have h1:(words a).length≤8589934592:=ha
 have hl:(words b).length≤(words a).length:=words_length_le (Nat.lt_of_le_of_lt hba (lt_words a))
 have:=sless_any (words a) (words b) u v w (wok_words a) (wok_words b) (by rw[wv_words,wv_words]; exact hba) hl hu.wsl hv.wsl (by omega)
 rw[wv_words,wv_words] at this
 exact this.mono fun e w' ⟨v,h1,h2,h3⟩=>⟨v,h1,h2.avoids ((hR rfl).below h3),h3⟩
theorem gUnder(a b:Nat)(ha:WL a 8589934592)(w:World)(A:Nat→Prop)(u v:Value)(hR:true=true→Rcv A w)(hu:WsF (words a) u w A)(hv:WsF (words b) v w A) :
  Calls Tryz.prog 171 #[u,v] w fun r w'=>r=.returned (.int .i64 (cmpZ a b))∧Below w.heap.size w w':=by
 have h1:(words a).length≤8589934592:=ha
 exact(sunder_any a b u v w hu.wsl hv.wsl (by omega)).mono fun e w' ⟨h1,n,h2⟩=>⟨h1,by rw[h2]; exact below_drewN br n⟩
theorem gProduct(a b:Nat)(ha:WL a 8589934592)(hb:WL b 8589934592)(w:World)(A:Nat→Prop)(u v:Value)(hR:true=true→Rcv A w)(hu:WsF (words a) u w A)(hv:WsF (words b) v w A) :
  Calls Tryz.prog 172 #[u,v] w fun r w'=>∃ v,r=.returned v∧WsF (words (a*b)) v w' A∧Below w.heap.size w w':=by
 have h1:(words a).length≤8589934592:=ha
 have h2:(words b).length≤8589934592:=hb
 have:=sproduct_any (words a) (words b) u v w (wok_words a) (wok_words b) hu.wsl hv.wsl (by omega) (by omega)
 rw[wv_words,wv_words] at this
 exact this.mono fun e w' ⟨v,h1,h2,h3⟩=>⟨v,h1,h2.avoids ((hR rfl).below h3),h3⟩
theorem gDivided(a b:Nat)(hb0:0<b)(ha:WL a 8589934592)(w:World)(A:Nat→Prop)(u v:Value)(hR:true=true→Rcv A w)(hu:WsF (words a) u w A)(hv:WsF (words b) v w A) :
  Calls Tryz.prog 170 #[u,v] w fun r w'=>∃ v1 v2,r=.returned (.tuple #[v1,v2])∧WsF (words (a / b)) v1 w' A∧WsF (words (a % b)) v2 w' A∧Below w.heap.size w w':=by
 have h1:(words a).length≤8589934592:=ha
 exact(sdivided_any a b u v w hu.wsl hv.wsl hb0 (by omega)).mono fun e w' ⟨v1,v2,h1,h2,h3,h4⟩=>⟨v1,v2,h1,h2.avoids ((hR rfl).below h4),h3.avoids ((hR rfl).below h4),h4⟩
theorem sneg(z:Int):PureC Tryz.prog 116 [encZ z] (encZ (-z)):=by
 rcases Int.lt_trichotomy z 0 with h|h|h
 ·rw[encZ_neg h,encZ_pos (show 0≤-z by omega),Int.natAbs_neg]
  exact ev_pure (hp:=false) (L:=[gx (.string (strN z.natAbs))]) tys_ok mixed [] [] [] Tryz.func116 60 [.row [.lit (.bool true),.sym 0]] (.r (.row [.lit (.bool false),.sym 0])) (by kernel_rfl)
 ·subst h
  rw[Int.neg_zero,encZ_zero]
  exact ev_pure (hp:=false) (L:=[]) tys_ok mixed [] [gb .neq 9 (.c (.lit .str0)) (.c (.lit .str0)) (.lit (.bool false)) (str_neq _ ⟨#[]⟩ false (by simp)) rfl rfl rfl] [] Tryz.func116 60 [.row [.lit (.bool false),.lit .str0]] (.r (.row [.lit (.bool false),.lit .str0])) (by kernel_rfl)
 ·rw[encZ_pos (show 0≤z by omega),encZ_neg (show -z<0 by omega),Int.natAbs_neg]
  exact ev_pure (hp:=false) (L:=[gx (.string (strN z.natAbs))]) tys_ok mixed [] [gbNemp 9 0 z.natAbs true (by simp; omega)] [] Tryz.func116 60 [.row [.lit (.bool false),.sym 0]] (.r (.row [.lit (.bool true),.sym 0])) (by kernel_rfl)
theorem sabs(z:Int):PureC Tryz.prog 108 [encZ z] (encZ (z.natAbs:Int)):=by
 rw[encZ_pos (show 0≤(z.natAbs:Int) by omega),Int.natAbs_natCast]
 exact ev_pure (hp:=false) (L:=[gx (.bool (decide (z<0))),gx (.string (strN z.natAbs))]) tys_ok mixed [] [] [] Tryz.func108 60 [.row [.sym 0,.sym 1]] (.r (.row [.lit (.bool false),.sym 1])) (by kernel_rfl)
def cz(z:Int):List GF:=[gx (.bool (decide (z<0))),gx (.string (strN z.natAbs))]
def zA(i:Nat):List AC:=[.sym i,.sym (i+1)]
theorem splus_same(neg:Bool)(a b:Nat)(ha:WL a 1073741824)(hb:WL b 1073741824):PureC Tryz.prog 173 [.agg #[.bool neg,.string (strN a)],.agg #[.bool neg,.string (strN b)]] (encZ (sgn neg (a+b))):=by
  have hs:WL (a+b) 8589934592:=by
    have:=wl_add (k:=1073741824) ha hb
    exact Nat.le_trans this (by decide)
  exact ev_pure (hp:=true) (L:=[gx (.bool neg),gx (.string (strN a)),gx (.string (strN b)),gw (words a),gw (words b),gw (words (a+b))]++cz (sgn neg (a+b))) tys_ok mixed
    [gm1 169 (.c (.sym 1)) (.r (.c (.sym 3))) eo169 (gWords a ha),gm1 169 (.c (.sym 2)) (.r (.c (.sym 4))) eo169 (gWords b hb),gm2 176 (.c (.sym 3)) (.c (.sym 4)) (.r (.c (.sym 5))) eo176 (gMore a b (ha.mono (by decide)) (hb.mono (by decide))),gm2x 144 (.c (.sym 0)) (.c (.sym 5)) (.r (.row (zA 6))) eo144 (gMade neg (a+b) hs)]
    [gb .eql 4 (.c (.sym 0)) (.c (.sym 0)) (.lit (.bool true)) (bool_eql Tryz.underlying4 neg neg true (by simp)) rfl rfl rfl] []
    Tryz.func173 100 [.row [.sym 0,.sym 1],.row [.sym 0,.sym 2]] (.r (.row (zA 6))) (by kernel_rfl)
theorem splus_unlike(neg:Bool)(a b:Nat)(ha:WL a 1073741824)(hb:WL b 1073741824)(hba:b≤a):PureC Tryz.prog 173 [.agg #[.bool neg,.string (strN a)],.agg #[.bool !neg,.string (strN b)]] (encZ (sgn neg (a - b))):=by
  have hs:WL (a - b) 8589934592:=Nat.le_trans (wl_mono (Nat.sub_le a b) ha) (by decide)
  exact ev_pure (hp:=true) (L:=[gx (.bool neg),gx (.string (strN a)),gx (.string (strN b)),gw (words a),gw (words b),gw (words (a - b)),gx (.bool !neg),gx (.int .i64 (cmpZ a b))]++cz (sgn neg (a - b))) tys_ok mixed
    [gm1 169 (.c (.sym 1)) (.r (.c (.sym 3))) eo169 (gWords a ha),gm1 169 (.c (.sym 2)) (.r (.c (.sym 4))) eo169 (gWords b hb),gm2x 171 (.c (.sym 3)) (.c (.sym 4)) (.r (.c (.sym 7))) eo171 (gUnder a b (ha.mono (by decide))),gm2 214 (.c (.sym 3)) (.c (.sym 4)) (.r (.c (.sym 5))) eo214 (gLess a b hba (ha.mono (by decide))),gm2x 144 (.c (.sym 0)) (.c (.sym 5)) (.r (.row (zA 8))) eo144 (gMade neg (a - b) hs)]
    [gb .eql 4 (.c (.sym 0)) (.c (.sym 6)) (.lit (.bool false)) (bool_eql Tryz.underlying4 neg (!neg) false (by simp)) rfl rfl rfl,gbInt .geq 3 .i64 (.sym 7) (.lit (.int .i64 0)) (cmpZ a b) 0 true (by have:=cmp_ge hba; simp[cmpB]; omega) rfl rfl] []
    Tryz.func173 100 [.row [.sym 0,.sym 1],.row [.sym 6,.sym 2]] (.r (.row (zA 8))) (by kernel_rfl)
theorem splus_unlike2(neg:Bool)(a b:Nat)(ha:WL a 1073741824)(hb:WL b 1073741824)(hab:a<b):PureC Tryz.prog 173 [.agg #[.bool neg,.string (strN a)],.agg #[.bool !neg,.string (strN b)]] (encZ (sgn (!neg) (b - a))):=by
  have hs:WL (b - a) 8589934592:=Nat.le_trans (wl_mono (Nat.sub_le b a) hb) (by decide)
  exact ev_pure (hp:=true) (L:=[gx (.bool neg),gx (.string (strN a)),gx (.string (strN b)),gw (words a),gw (words b),gw (words (b - a)),gx (.bool !neg),gx (.int .i64 (cmpZ a b))]++cz (sgn (!neg) (b - a))) tys_ok mixed
    [gm1 169 (.c (.sym 1)) (.r (.c (.sym 3))) eo169 (gWords a ha),gm1 169 (.c (.sym 2)) (.r (.c (.sym 4))) eo169 (gWords b hb),gm2x 171 (.c (.sym 3)) (.c (.sym 4)) (.r (.c (.sym 7))) eo171 (gUnder a b (ha.mono (by decide))),gm2 214 (.c (.sym 4)) (.c (.sym 3)) (.r (.c (.sym 5))) eo214 (gLess b a (by omega) (hb.mono (by decide))),gm2x 144 (.c (.sym 6)) (.c (.sym 5)) (.r (.row (zA 8))) eo144 (gMade (!neg) (b - a) hs)]
    [gb .eql 4 (.c (.sym 0)) (.c (.sym 6)) (.lit (.bool false)) (bool_eql Tryz.underlying4 neg (!neg) false (by simp)) rfl rfl rfl,gbInt .geq 3 .i64 (.sym 7) (.lit (.int .i64 0)) (cmpZ a b) 0 false (by have:=cmp_lt hab; simp[cmpB]; omega) rfl rfl] []
    Tryz.func173 100 [.row [.sym 0,.sym 1],.row [.sym 6,.sym 2]] (.r (.row (zA 8))) (by kernel_rfl)
theorem splus(x y:Int)(hx:WL x.natAbs 1073741824)(hy:WL y.natAbs 1073741824):PureC Tryz.prog 173 [encZ x,encZ y] (encZ (x+y)):=by
 unfold encZ
 by_cases h:decide (x<0)=decide (y<0)
 ·rw[←h]
  have:=splus_same (decide (x<0)) x.natAbs y.natAbs hx hy
  have e:sgn (decide (x<0)) (x.natAbs+y.natAbs)=x+y:=by
   unfold sgn
   by_cases hx0:x<0<;>simp[hx0] at h ⊢<;>omega
  rw[e] at this
  exact this
 ·have h':decide (y<0)=!decide (x<0):=by cases hq:decide (x<0)<;>cases hr:decide (y<0)<;>simp_all
  rw[h']
  by_cases hba:y.natAbs≤x.natAbs
  ·have:=splus_unlike (decide (x<0)) x.natAbs y.natAbs hx hy hba
   have e:sgn (decide (x<0)) (x.natAbs - y.natAbs)=x+y:=by
    unfold sgn
    by_cases hx0:x<0<;>simp[hx0] at h' ⊢<;>omega
   rw[e] at this
   exact this
  ·have:=splus_unlike2 (decide (x<0)) x.natAbs y.natAbs hx hy (by omega)
   have e:sgn (!decide (x<0)) (y.natAbs - x.natAbs)=x+y:=by
    unfold sgn
    by_cases hx0:x<0<;>simp[hx0] at h' ⊢<;>omega
   rw[e] at this
   exact this
theorem sminus(x y:Int)(hx:WL x.natAbs 1073741824)(hy:WL y.natAbs 1073741824):PureC Tryz.prog 199 [encZ x,encZ y] (encZ (x - y)) :=
  ev_pure (hp:=false) (L:=cz x++cz y++cz (-y)++cz (x - y)) tys_ok mixed
    [gp 116 [.row (zA 2)] (.r (.row (zA 4))) eo116 (sneg y) rfl rfl,gp 173 [.row (zA 0),.row (zA 4)] (.r (.row (zA 6))) eo173 (splus x (-y) hx (by rw[Int.natAbs_neg]; exact hy)) rfl rfl] [] []
    Tryz.func199 100 [.row (zA 0),.row (zA 2)] (.r (.row (zA 6))) (by kernel_rfl) rfl rfl
theorem stimes(x y:Int)(hx:WL x.natAbs 1073741824)(hy:WL y.natAbs 1073741824):PureC Tryz.prog 110 [encZ x,encZ y] (encZ (x*y)):=by
  have hs:WL (x.natAbs*y.natAbs) 8589934592:=Nat.le_trans (wl_mul hx hy) (by decide)
  have e:sgn (decide (x<0) != decide (y<0)) (x.natAbs*y.natAbs)=x*y:=by
    have h0:=Int.natAbs_mul x y
    rw[←h0]
    unfold sgn
    rcases Int.lt_trichotomy x 0 with h1|h1|h1<;>rcases Int.lt_trichotomy y 0 with h2|h2|h2
    · have:=Int.mul_pos_of_neg_of_neg h1 h2
      simp[h1,h2]; omega
    · subst h2; simp
    · have:=Int.mul_neg_of_neg_of_pos h1 h2
      have h3:¬y<0:=by omega
      simp[h1,h3]; omega
    · subst h1; simp
    · subst h1; simp
    · subst h1; simp
    · have:=Int.mul_neg_of_pos_of_neg h1 h2
      have h3:¬x<0:=by omega
      simp[h3,h2]; omega
    · subst h2; simp
    · have:=Int.mul_pos h1 h2
      have h3:¬x<0:=by omega
      have h4:¬y<0:=by omega
      simp[h3,h4]; omega
  have hm:=gMade (decide (x<0) != decide (y<0)) (x.natAbs*y.natAbs) hs
  rw[e] at hm
  exact ev_pure (hp:=true) (L:=cz x++cz y++[gx (.bool (decide (x<0) != decide (y<0))),gw (words x.natAbs),gw (words y.natAbs),gw (words (x.natAbs*y.natAbs))]++cz (x*y)) tys_ok mixed
    [gm1 169 (.c (.sym 1)) (.r (.c (.sym 5))) eo169 (gWords _ hx),gm1 169 (.c (.sym 3)) (.r (.c (.sym 6))) eo169 (gWords _ hy),gm2 172 (.c (.sym 5)) (.c (.sym 6)) (.r (.c (.sym 7))) eo172 (gProduct _ _ (hx.mono (by decide)) (hy.mono (by decide))),gm2x 144 (.c (.sym 4)) (.c (.sym 7)) (.r (.row (zA 8))) eo144 hm]
    [gb .neq 4 (.c (.sym 0)) (.c (.sym 2)) (.sym 4) (bool_neq Tryz.underlying4 _ _ _ rfl) rfl rfl rfl] []
    Tryz.func110 100 [.row (zA 0),.row (zA 2)] (.r (.row (zA 8))) (by kernel_rfl) rfl rfl
end Go.Proofs.YthklnbaddobieaaGreat
namespace Go.Proofs.YthklnbaddobieaaGreat
open Go.RowKit Tr
theorem conv_u64(n:Int)(t:TypeId)(ht:Tryz.prog.underlying t=some (.int .u64))(m:Int)(hm:IntKind.u64.wrap n=m):∀ w,(convert 2 t (.int .i64 n)).run Tryz.prog w=.ok (.int .u64 m) w:=by
 intro w; simp[convert,run_underlying Tryz.underlying2,run_underlying ht,Conv.intToInt,hm]
theorem conv_u32(n:Int)(s t:TypeId)(hs:∃ d,Tryz.prog.underlying s=some d)(ht:Tryz.prog.underlying t=some (.int .u32))(m:Int)(hm:IntKind.u32.wrap n=m):∀ w,(convert s t (.int .u64 n)).run Tryz.prog w=.ok (.int .u32 m) w:=by
 obtain⟨d,hs⟩:=hs
 intro w; simp[convert,run_underlying hs,run_underlying ht,Conv.intToInt,hm]
theorem u64_rem(t:TypeId)(a b:Nat)(hb:b≠0):∀(xo yo:Operand) (w:World),(do eqGuard .rem t xo yo (.int .u64 a) (.int .u64 b); binOp .rem t (.int .u64 a) (.int .u64 b):Sem Value).run Tryz.prog w=.ok (.int .u64 ((a % b:Nat):Int)) w:=by
 intro xo yo w
 have h3:((a:Int).tmod (b:Int))=((a % b:Nat):Int):=by rw[Int.ofNat_tmod]
 simp[eqGuard,binOp,Op.intDiv,hb]
 exact h3
theorem u64_quo(t:TypeId)(a b:Nat)(hb:b≠0)(ha:a<18446744073709551616):∀(xo yo:Operand) (w:World),(do eqGuard .quo t xo yo (.int .u64 a) (.int .u64 b); binOp .quo t (.int .u64 a) (.int .u64 b):Sem Value).run Tryz.prog w=.ok (.int .u64 ((a / b:Nat):Int)) w:=by
 intro xo yo w
 have h1:a / b≤a:=Nat.div_le_self a b
 obtain⟨q,hq⟩:∃ q,q=a / b:=⟨_,rfl⟩
 rw[←hq] at h1 ⊢
 have h2:IntKind.u64.wrap (q:Int)=(q:Int):=by rw[IntKind.wrap_u64]; omega
 have h3:((a:Int).tdiv (b:Int))=(q:Int):=by rw[hq,Int.ofNat_tdiv]
 simp only[eqGuard,binOp,Op.intDiv,Sem.run_bind]
 simp[hb,h3,h2]
theorem two_words(u:Nat)(hu:u<18446744073709551616):wv [u % 4294967296,u / 4294967296]=u∧WOk [u % 4294967296,u / 4294967296]:=by
 refine⟨by simp[wv]; omega,?_⟩
 rw[wok_cons,wok_cons]
 exact⟨by omega,by omega,wok_nil⟩
theorem made_lit(neg:Bool)(u:Nat)(hu:u<18446744073709551616)(w:World)(n:Nat)(vs:List Value)(hn:w.heap[n]?=some (.cells vs.toArray 192 (0,0)))(hv:vs=[.int .u32 ((u % 4294967296:Nat):Int),.int .u32 ((u / 4294967296:Nat):Int)]) :
  Calls Tryz.prog 144 #[.bool neg,.slice (some ⟨n,0,none⟩) 2 2] w fun e w'=>e=.returned (encZ (sgn neg u))∧Below w.heap.size w w':=by
 obtain⟨h1,h2⟩:=two_words u hu
 have:=smade_any neg [u % 4294967296,u / 4294967296] (.slice (some ⟨n,0,none⟩) 2 2) w h2 ⟨_,2,rfl,by simp,fun _=>⟨n,0,rfl,(Array.getElem?_eq_some_iff.1 hn).1,fun j hj=>by
  subst hv
  match j,hj with
  | 0,_=>simp[World.cell?,hn]
  | 1,_=>simp[World.cell?,hn]
  | j+2,hj=>exact absurd hj (by simp)⟩⟩ (by simp)
 rw[h1] at this
 exact this
def gMadeL{L:List GF}(neg:Bool)(u:Nat)(hu:u<18446744073709551616)(b:Nat)(x:AC)(lo hi:Nat)(res:AV)(hlo:(AC.sym lo).gv L=some (.int .u32 ((u % 4294967296:Nat):Int)))(hhi:(AC.sym hi).gv L=some (.int .u32 ((u / 4294967296:Nat):Int)))(hx:x.gv L=some (.bool neg))(hr:res.gv L=some (encZ (sgn neg u))):GC Tryz.prog L false :=
 ⟨{ f:=144,args:=[.c x,.c (.sl b 0 2 2)],res,needs:=[(b,⟨[.sym lo,.sym hi],192,none⟩)] },eo144,fun σ w A us _ _ hu' hn=>by
  match us,hu' with
  | [u1,u2],⟨h1,h2,_⟩ =>
   obtain⟨m,e1,e2⟩:=h2
   obtain⟨⟨n,vs,k1,k2,k3,k4⟩,_⟩:=hn
   rw[e1] at k1; cases k1
   have e3:u1=.bool neg:=(AC.gv_ok (x:=x) hx).1 h1
   subst e3; subst e2
   have hv:vs=[.int .u32 ((u % 4294967296:Nat):Int),.int .u32 ((u / 4294967296:Nat):Int)]:=by
    match vs,k4 with
    | [a,b],⟨g1,g2,_⟩=>rw[(AC.gv_ok (x:=.sym lo) hlo).1 g1,(AC.gv_ok (x:=.sym hi) hhi).1 g2]
   exact(made_lit neg u hu w m vs k3 hv).mono fun r w' ⟨h1,h2⟩=>⟨_,h1,(AV.gv_ok hr).2 rfl,h2⟩⟩
theorem sof(n:Int)(h1:-9223372036854775808≤n)(h2:n<9223372036854775808):PureC Tryz.prog 79 [.int .i64 n] (encZ n):=by
  obtain⟨u,hu⟩:∃ u,u=n.natAbs:=⟨_,rfl⟩
  have hu64:u<18446744073709551616:=by omega
  have hz:sgn (decide (n<0)) u=n:=by rw[hu]; exact sgn_self n
  by_cases hneg:n<0
  · have hd:decide (n<0)=true:=by simp[hneg]
    rw[hd] at hz
    have hw:IntKind.u64.wrap n=18446744073709551616 - (u:Int):=by rw[IntKind.wrap_u64]; omega
    have hw2:IntKind.u64.wrap (0 - (18446744073709551616 - (u:Int)))=(u:Int):=by rw[IntKind.wrap_u64]; omega
    exact ev_pure (hp:=false) (L:=[gx (.int .i64 n),gx (.int .u64 (18446744073709551616 - (u:Int))),gx (.int .u64 (u:Int)),gx (.int .u64 ((u % 4294967296:Nat):Int)),gx (.int .u64 ((u / 4294967296:Nat):Int)),gx (.int .u32 ((u % 4294967296:Nat):Int)),gx (.int .u32 ((u / 4294967296:Nat):Int))]++cz n) tys_ok mixed
      [gMadeL true u hu64 17 (.lit (.bool true)) 5 6 (.r (.row (zA 7))) rfl rfl rfl (by rw[hz]; rfl)]
      [gbInt .lss 2 .i64 (.sym 0) (.lit (.int .i64 0)) n 0 true (by simp[cmpB,hneg]) rfl rfl,gb .rem 41 (.c (.sym 2)) (.c (.lit (.int .u64 4294967296))) (.sym 3) (u64_rem _ u 4294967296 (by decide)) rfl rfl rfl,gb .quo 41 (.c (.sym 2)) (.c (.lit (.int .u64 4294967296))) (.sym 4) (u64_quo _ u 4294967296 (by decide) hu64) rfl rfl rfl]
      [goConv 2 41 (.c (.sym 0)) (.sym 1) (conv_u64 n _ Tryz.underlying41 _ hw) rfl rfl,goNeg (.c (.sym 1)) (.sym 2) (fun w=>by simp only[Op.unary,Op.intArith,Sem.run_pure,hw2]) rfl rfl,goConv 41 192 (.c (.sym 3)) (.sym 5) (conv_u32 _ _ _ ⟨_,Tryz.underlying41⟩ Tryz.underlying192 _ (by rw[IntKind.wrap_u32]; omega)) rfl rfl,goConv 41 192 (.c (.sym 4)) (.sym 6) (conv_u32 _ _ _ ⟨_,Tryz.underlying41⟩ Tryz.underlying192 _ (by rw[IntKind.wrap_u32]; omega)) rfl rfl]
      Tryz.func79 100 [.c (.sym 0)] (.r (.row (zA 7))) (by kernel_rfl) rfl rfl
  · have hd:decide (n<0)=false:=by simp; omega
    rw[hd] at hz
    have hw:IntKind.u64.wrap n=(u:Int):=by rw[IntKind.wrap_u64]; omega
    exact ev_pure (hp:=false) (L:=[gx (.int .i64 n),gx (.bool true),gx (.int .u64 (u:Int)),gx (.int .u64 ((u % 4294967296:Nat):Int)),gx (.int .u64 ((u / 4294967296:Nat):Int)),gx (.int .u32 ((u % 4294967296:Nat):Int)),gx (.int .u32 ((u / 4294967296:Nat):Int))]++cz n) tys_ok mixed
      [gMadeL false u hu64 14 (.lit (.bool false)) 5 6 (.r (.row (zA 7))) rfl rfl rfl (by rw[hz]; rfl)]
      [gbInt .lss 2 .i64 (.sym 0) (.lit (.int .i64 0)) n 0 false (by simp[cmpB]; omega) rfl rfl,gb .rem 41 (.c (.sym 2)) (.c (.lit (.int .u64 4294967296))) (.sym 3) (u64_rem _ u 4294967296 (by decide)) rfl rfl rfl,gb .quo 41 (.c (.sym 2)) (.c (.lit (.int .u64 4294967296))) (.sym 4) (u64_quo _ u 4294967296 (by decide) hu64) rfl rfl rfl]
      [goConv 2 41 (.c (.sym 0)) (.sym 2) (conv_u64 n _ Tryz.underlying41 _ hw) rfl rfl,goConv 41 192 (.c (.sym 3)) (.sym 5) (conv_u32 _ _ _ ⟨_,Tryz.underlying41⟩ Tryz.underlying192 _ (by rw[IntKind.wrap_u32]; omega)) rfl rfl,goConv 41 192 (.c (.sym 4)) (.sym 6) (conv_u32 _ _ _ ⟨_,Tryz.underlying41⟩ Tryz.underlying192 _ (by rw[IntKind.wrap_u32]; omega)) rfl rfl]
      Tryz.func79 100 [.c (.sym 0)] (.r (.row (zA 7))) (by kernel_rfl) rfl rfl
theorem run_len_ws(l:List Nat)(w:World)(A:Nat→Prop)(u:Value)(ty:TypeId)(hu:WsF l u w A):(Builtin.len_ #[129] ty #[u]).run Tryz.prog w=.ok (.int .i64 (l.length:Nat)) w:=by
 obtain⟨p,c,rfl,_⟩:=hu
 simp[Builtin.len_,run_underlying Tryz.underlying129,goInt]
theorem ediv_pos_left{x y:Int}(hx:0≤x):x / y=sgn (decide (y<0)) (x.natAbs / y.natAbs)∧x % y=((x.natAbs % y.natAbs:Nat):Int):=by
 obtain⟨a,rfl⟩:∃ a:Nat,x=a:=⟨x.natAbs,by omega⟩
 rcases(show y<0∨0≤y by omega) with h|h
 ·obtain⟨b,rfl⟩:∃ b:Nat,y=-(b:Int):=⟨y.natAbs,by omega⟩
  unfold sgn
  simp[Int.ediv_neg,Int.emod_neg]
  intro h0; omega
 ·obtain⟨b,rfl⟩:∃ b:Nat,y=b:=⟨y.natAbs,by omega⟩
  have:¬((b:Int)<0):=by omega
  unfold sgn
  simp[this]
theorem ediv_neg_zero{x y:Int}(hx:x<0)(hy:y≠0)(hr:x.natAbs % y.natAbs=0):x / y=sgn (!decide (y<0)) (x.natAbs / y.natAbs)∧x % y=0:=by
 obtain⟨a,rfl⟩:∃ a:Nat,x=-(a:Int):=⟨x.natAbs,by omega⟩
 have hd:=Nat.dvd_of_mod_eq_zero hr
 simp only[Int.natAbs_neg,Int.natAbs_natCast] at hr hd ⊢
 rcases(show y<0∨0≤y by omega) with h|h
 ·obtain⟨b,rfl⟩:∃ b:Nat,y=-(b:Int):=⟨y.natAbs,by omega⟩
  simp only[Int.natAbs_neg,Int.natAbs_natCast] at hd hr ⊢
  obtain⟨c,rfl⟩:=hd
  have hb:0<b:=by omega
  unfold sgn
  simp[Int.ediv_neg,Int.emod_neg,Nat.mul_div_cancel_left c hb]
  rw[←Int.mul_neg,Int.mul_ediv_cancel_left _ (by omega)]
  simp
  intro h0; omega
 ·obtain⟨b,rfl⟩:∃ b:Nat,y=b:=⟨y.natAbs,by omega⟩
  simp only[Int.natAbs_natCast] at hd hr ⊢
  obtain⟨c,rfl⟩:=hd
  have hb:0<b:=by omega
  have:¬((b:Int)<0):=by omega
  unfold sgn
  simp[this,Nat.mul_div_cancel_left c hb]
  rw[←Int.mul_neg,Int.mul_ediv_cancel_left _ (by omega)]
theorem ediv_unique{x y q r:Int}(hy:y≠0)(h:x=y*q+r)(h0:0≤r)(h1:r<y.natAbs):x / y=q∧x % y=r:=by
 rw[h]
 have hr:r / y=0:=by
  rcases(show y<0∨0≤y by omega) with hn|hp
  ·obtain⟨b,rfl⟩:∃ b:Nat,y=-(b:Int):=⟨y.natAbs,by omega⟩
   rw[Int.ediv_neg,Int.ediv_eq_zero_of_lt h0 (by omega)]; rfl
  ·exact Int.ediv_eq_zero_of_lt h0 (by omega)
 constructor
 ·rw[Int.mul_add_ediv_left _ _ hy,hr,Int.add_zero]
 ·rw[Int.mul_add_emod_self_left]
  have:=Int.mul_ediv_add_emod r y
  rw[hr] at this
  omega
theorem ediv_neg_pos{x y:Int}(hx:x<0)(hy:y≠0)(hr:x.natAbs % y.natAbs≠0) :
  (y<0→x / y=((x.natAbs / y.natAbs:Nat):Int)+1)∧(0<y→x / y=-((x.natAbs / y.natAbs:Nat):Int) - 1)∧x % y=(y.natAbs:Int) - ((x.natAbs % y.natAbs:Nat):Int):=by
 obtain⟨a,rfl⟩:∃ a:Nat,x=-(a:Int):=⟨x.natAbs,by omega⟩
 simp only[Int.natAbs_neg,Int.natAbs_natCast] at hr ⊢
 have hb0:0<y.natAbs:=by omega
 have h1:=Nat.div_add_mod a y.natAbs
 have h2:=Nat.mod_lt a hb0
 obtain⟨q,hq⟩:∃ q,q=a / y.natAbs:=⟨_,rfl⟩
 obtain⟨r,hr'⟩:∃ r,r=a % y.natAbs:=⟨_,rfl⟩
 rw[←hq,←hr'] at h1
 rw[←hr'] at h2 hr
 rw[←hq,←hr']
 have h3:(y.natAbs:Int)*q+r=a:=by rw[←h1]; simp
 rcases(show y<0∨0≤y by omega) with h|h
 ·have hyn:(y.natAbs:Int)=-y:=by omega
  rw[hyn] at h3 ⊢
  have:=ediv_unique (x:=-(a:Int)) (y:=y) (q:=(q:Int)+1) (r:=-y - r) hy (by rw[Int.mul_add,Int.mul_one,←h3,Int.neg_mul]; omega) (by omega) (by omega)
  exact⟨fun _=>this.1,fun h'=>by omega,this.2⟩
 ·have hyn:(y.natAbs:Int)=y:=by omega
  rw[hyn] at h3 ⊢
  have:=ediv_unique (x:=-(a:Int)) (y:=y) (q:=-(q:Int) - 1) (r:=y - r) hy (by rw[Int.mul_sub,Int.mul_one,←h3,Int.mul_neg]; omega) (by omega) (by omega)
  exact⟨fun h'=>by omega,fun _=>this.1,this.2⟩
theorem WL.div{a b k:Nat}(h:WL a k):WL (a / b) k:=wl_mono (Nat.div_le_self a b) h
theorem WL.mod{a b k:Nat}(h:WL a k):WL (a % b) k:=wl_mono (Nat.mod_le a b) h
theorem WL.one:WL 1 1:=words_length_le (by decide)
theorem WL.zero(k:Nat):WL 0 k:=by unfold WL; rw[words_zero]; exact Nat.zero_le _
theorem natAbs_sgn'(neg:Bool)(a k:Nat)(h:WL a k):WL (sgn neg a).natAbs k:=by rw[natAbs_sgn]; exact h
theorem sdm_pos (a : Nat) (y : Int) (hy : y ≠ 0) (ha : WL a 536870912) (hb : WL y.natAbs 536870912) :
    PureC Tryz.prog 143 [.agg #[.bool false,.string (strN a)],encZ y] (.tuple #[encZ (sgn (decide (y<0)) (a / y.natAbs)),encZ ((a % y.natAbs:Nat):Int)]):=by
  have hb0:0<y.natAbs:=by omega
  have h1:=gMade (decide (y<0)) (a / y.natAbs) (ha.div.mono (by decide))
  have h2:=gMade false (a % y.natAbs) (ha.mod.mono (by decide))
  rw[show sgn false (a % y.natAbs)=((a % y.natAbs:Nat):Int) from rfl] at h2
  exact ev_pure (hp:=true) (L:=[gx (.string (strN a)),gx (.string (strN y.natAbs)),gw (words a),gw (words y.natAbs),gw (words (a / y.natAbs)),gw (words (a % y.natAbs)),gx (.bool (decide (y<0)))]++cz (sgn (decide (y<0)) (a / y.natAbs))++cz ((a % y.natAbs:Nat):Int)) tys_ok mixed
    [gm1 169 (.c (.sym 0)) (.r (.c (.sym 2))) eo169 (gWords _ (ha.mono (by decide))),gm1 169 (.c (.sym 1)) (.r (.c (.sym 3))) eo169 (gWords _ (hb.mono (by decide))),gm2 170 (.c (.sym 2)) (.c (.sym 3)) (.tup [.c (.sym 4),.c (.sym 5)]) eo170 (fun w A u v hR hu hv=>(gDivided a y.natAbs hb0 (ha.mono (by decide)) w A u v hR hu hv).mono fun r w' ⟨v1,v2,h1,h2,h3,h4⟩=>⟨_,h1,⟨[v1,v2],rfl,h2,h3,trivial⟩,h4⟩),gm2x 144 (.c (.sym 6)) (.c (.sym 4)) (.r (.row (zA 7))) eo144 h1,gm2x 144 (.c (.lit (.bool false))) (.c (.sym 5)) (.r (.row (zA 9))) eo144 h2]
    [gb .neq 4 (.c (.lit (.bool false))) (.c (.sym 6)) (.sym 6) (bool_neq Tryz.underlying4 _ _ _ (by cases decide (y<0)<;>rfl)) rfl rfl rfl] []
    Tryz.func143 100 [.row [.lit (.bool false),.sym 0],.row [.sym 6,.sym 1]] (.tup [.row (zA 7),.row (zA 9)]) (by kernel_rfl) rfl rfl
theorem sdm_even (a : Nat) (y : Int) (hy : y ≠ 0) (hr : a % y.natAbs = 0) (ha : WL a 536870912) (hb : WL y.natAbs 536870912) :
    PureC Tryz.prog 143 [.agg #[.bool true,.string (strN a)],encZ y] (.tuple #[encZ (sgn (!decide (y<0)) (a / y.natAbs)),encZ 0]):=by
  have hb0:0<y.natAbs:=by omega
  have h1:=gMade (!decide (y<0)) (a / y.natAbs) (ha.div.mono (by decide))
  have h2:=gMade false 0 (WL.zero _)
  rw[show sgn false 0=0 from rfl] at h2
  have hd:=gDivided a y.natAbs hb0 (ha.mono (by decide))
  rw[hr] at hd
  exact ev_pure (hp:=true) (L:=[gx (.string (strN a)),gx (.string (strN y.natAbs)),gw (words a),gw (words y.natAbs),gw (words (a / y.natAbs)),gw (words 0),gx (.bool (decide (y<0))),gx (.bool (!decide (y<0)))]++cz (sgn (!decide (y<0)) (a / y.natAbs))++cz 0) tys_ok mixed
    [gm1 169 (.c (.sym 0)) (.r (.c (.sym 2))) eo169 (gWords _ (ha.mono (by decide))),gm1 169 (.c (.sym 1)) (.r (.c (.sym 3))) eo169 (gWords _ (hb.mono (by decide))),gm2 170 (.c (.sym 2)) (.c (.sym 3)) (.tup [.c (.sym 4),.c (.sym 5)]) eo170 (fun w A u v hR hu hv=>(hd w A u v hR hu hv).mono fun r w' ⟨v1,v2,h1,h2,h3,h4⟩=>⟨_,h1,⟨[v1,v2],rfl,h2,h3,trivial⟩,h4⟩),gm2x 144 (.c (.sym 7)) (.c (.sym 4)) (.r (.row (zA 8))) eo144 h1,gm2x 144 (.c (.lit (.bool false))) (.c (.sym 5)) (.r (.row (zA 10))) eo144 h2]
    [gb .neq 4 (.c (.lit (.bool true))) (.c (.sym 6)) (.sym 7) (bool_neq Tryz.underlying4 _ _ _ (by cases decide (y<0)<;>rfl)) rfl rfl rfl]
    [goLenG 129 (.c (.sym 5)) (.lit (.int .i64 0)) (fun w A u ty hu=>by have:=run_len_ws (words 0) w A u ty hu; simpa[words_zero] using this)]
    Tryz.func143 100 [.row [.lit (.bool true),.sym 0],.row [.sym 6,.sym 1]] (.tup [.row (zA 8),.row (zA 10)]) (by kernel_rfl) rfl rfl
theorem sdm_odd (a : Nat) (yn : Bool) (b : Nat) (hb0 : 0 < b) (hr : a % b ≠ 0) (ha : WL a 536870912) (hb : WL b 536870912) (q : Int) (hq : q = if yn then sgn (!yn) (a / b) + 1 else sgn (!yn) (a / b) - 1) :
    PureC Tryz.prog 143 [.agg #[.bool true,.string (strN a)],.agg #[.bool yn,.string (strN b)]] (.tuple #[encZ q,encZ ((b:Int) - ((a % b:Nat):Int))]):=by
  have h1:=gMade (!yn) (a / b) (ha.div.mono (by decide))
  have h2:=gMade false (a % b) (ha.mod.mono (by decide))
  rw[show sgn false (a % b)=((a % b:Nat):Int) from rfl] at h2
  have hl:0<(words (a % b)).length:=List.length_pos_iff.2 (fun h=>hr (words_eq_nil.1 h))
  have hs:=sof 1 (by decide) (by decide)
  have hab:=sabs (sgn yn b)
  rw[natAbs_sgn] at hab
  have habs:encZ (sgn yn b)=.agg #[.bool yn,.string (strN b)]:=by
    unfold encZ; rw[natAbs_sgn,sgn_neg]; simp; omega
  rw[habs] at hab
  have hm:=sminus (b:Int) ((a % b:Nat):Int) (by rw[Int.natAbs_natCast]; exact hb.mono (by decide)) (by rw[Int.natAbs_natCast]; exact ha.mod.mono (by decide))
  cases yn
  · have hp:=sminus (sgn true (a / b)) 1 (natAbs_sgn' _ _ _ (ha.div.mono (by decide))) (WL.one.mono (by decide))
    simp only[Bool.not_false,Bool.false_eq_true,if_false] at hq
    rw[Bool.not_false] at h1
    rw[←hq] at hp
    exact ev_pure (hp:=true) (L:=[gx (.string (strN a)),gx (.string (strN b)),gw (words a),gw (words b),gw (words (a / b)),gw (words (a % b)),gx (.int .i64 ((words (a % b)).length:Nat))]++cz (sgn true (a / b))++cz ((a % b:Nat):Int)++cz 1++cz q++cz (b:Int)++cz ((b:Int) - ((a % b:Nat):Int))) tys_ok mixed
      [gm1 169 (.c (.sym 0)) (.r (.c (.sym 2))) eo169 (gWords _ (ha.mono (by decide))),gm1 169 (.c (.sym 1)) (.r (.c (.sym 3))) eo169 (gWords _ (hb.mono (by decide))),gm2 170 (.c (.sym 2)) (.c (.sym 3)) (.tup [.c (.sym 4),.c (.sym 5)]) eo170 (fun w A u v hR hu hv=>(gDivided a b hb0 (ha.mono (by decide)) w A u v hR hu hv).mono fun r w' ⟨v1,v2,h1,h2,h3,h4⟩=>⟨_,h1,⟨[v1,v2],rfl,h2,h3,trivial⟩,h4⟩),gm2x 144 (.c (.lit (.bool true))) (.c (.sym 4)) (.r (.row (zA 7))) eo144 h1,gm2x 144 (.c (.lit (.bool false))) (.c (.sym 5)) (.r (.row (zA 9))) eo144 h2,gp 79 [.c (.lit (.int .i64 1))] (.r (.row (zA 11))) eo79 hs rfl rfl,gp 199 [.row (zA 7),.row (zA 11)] (.r (.row (zA 13))) eo199 hp rfl rfl,gp 108 [.row [.lit (.bool false),.sym 1]] (.r (.row (zA 15))) eo108 hab rfl rfl,gp 199 [.row (zA 15),.row (zA 9)] (.r (.row (zA 17))) eo199 hm rfl rfl]
      [gbNeb 4 Tryz.underlying4 true false,gbInt .eql 3 .i64 (.sym 6) (.lit (.int .i64 0)) _ 0 false (by simp only[cmpB]; congr 1; simp only[beq_eq_false_iff_ne]; omega) rfl rfl]
      [goLenG 129 (.c (.sym 5)) (.sym 6) (fun w A u ty hu=>run_len_ws (words (a % b)) w A u ty hu)]
      Tryz.func143 100 [.row [.lit (.bool true),.sym 0],.row [.lit (.bool false),.sym 1]] (.tup [.row (zA 13),.row (zA 17)]) (by kernel_rfl) rfl rfl
  · have hp:=splus (sgn false (a / b)) 1 (natAbs_sgn' _ _ _ (ha.div.mono (by decide))) (WL.one.mono (by decide))
    simp only[Bool.not_true,if_true] at hq
    rw[Bool.not_true] at h1
    rw[←hq] at hp
    exact ev_pure (hp:=true) (L:=[gx (.string (strN a)),gx (.string (strN b)),gw (words a),gw (words b),gw (words (a / b)),gw (words (a % b)),gx (.int .i64 ((words (a % b)).length:Nat))]++cz (sgn false (a / b))++cz ((a % b:Nat):Int)++cz 1++cz q++cz (b:Int)++cz ((b:Int) - ((a % b:Nat):Int))) tys_ok mixed
      [gm1 169 (.c (.sym 0)) (.r (.c (.sym 2))) eo169 (gWords _ (ha.mono (by decide))),gm1 169 (.c (.sym 1)) (.r (.c (.sym 3))) eo169 (gWords _ (hb.mono (by decide))),gm2 170 (.c (.sym 2)) (.c (.sym 3)) (.tup [.c (.sym 4),.c (.sym 5)]) eo170 (fun w A u v hR hu hv=>(gDivided a b hb0 (ha.mono (by decide)) w A u v hR hu hv).mono fun r w' ⟨v1,v2,h1,h2,h3,h4⟩=>⟨_,h1,⟨[v1,v2],rfl,h2,h3,trivial⟩,h4⟩),gm2x 144 (.c (.lit (.bool false))) (.c (.sym 4)) (.r (.row (zA 7))) eo144 h1,gm2x 144 (.c (.lit (.bool false))) (.c (.sym 5)) (.r (.row (zA 9))) eo144 h2,gp 79 [.c (.lit (.int .i64 1))] (.r (.row (zA 11))) eo79 hs rfl rfl,gp 173 [.row (zA 7),.row (zA 11)] (.r (.row (zA 13))) eo173 hp rfl rfl,gp 108 [.row [.lit (.bool true),.sym 1]] (.r (.row (zA 15))) eo108 hab rfl rfl,gp 199 [.row (zA 15),.row (zA 9)] (.r (.row (zA 17))) eo199 hm rfl rfl]
      [gbNeb 4 Tryz.underlying4 true true,gbInt .eql 3 .i64 (.sym 6) (.lit (.int .i64 0)) _ 0 false (by simp only[cmpB]; congr 1; simp only[beq_eq_false_iff_ne]; omega) rfl rfl]
      [goLenG 129 (.c (.sym 5)) (.sym 6) (fun w A u ty hu=>run_len_ws (words (a % b)) w A u ty hu)]
      Tryz.func143 100 [.row [.lit (.bool true),.sym 0],.row [.lit (.bool true),.sym 1]] (.tup [.row (zA 13),.row (zA 17)]) (by kernel_rfl) rfl rfl
theorem sdivmod(x y:Int)(hy:y≠0)(hx:WL x.natAbs 536870912)(hyl:WL y.natAbs 536870912):PureC Tryz.prog 143 [encZ x,encZ y] (.tuple #[encZ (x / y),encZ (x % y)]):=by
 rcases(show x<0∨0≤x by omega) with h|h
 ·by_cases hr:x.natAbs % y.natAbs=0
  ·obtain⟨e1,e2⟩:=ediv_neg_zero h hy hr
   rw[e1,e2,encZ_neg h]
   exact sdm_even _ y hy hr hx hyl
  ·obtain⟨e1,e2,e3⟩:=ediv_neg_pos h hy hr
   have hq:x / y=if decide (y<0) then sgn (!decide (y<0)) (x.natAbs / y.natAbs)+1 else sgn (!decide (y<0)) (x.natAbs / y.natAbs) - 1:=by
    by_cases hn:y<0
    ·rw[e1 hn]; simp[hn,sgn]
    ·rw[e2 (by omega)]; simp[hn,sgn]
   rw[e3,encZ_neg h]
   exact sdm_odd x.natAbs (decide (y<0)) y.natAbs (by omega) hr hx hyl (x / y) hq
 ·obtain⟨e1,e2⟩:=ediv_pos_left (y:=y) h
  rw[e1,e2,encZ_pos h]
  exact sdm_pos _ y hy hx hyl
end Go.Proofs.YthklnbaddobieaaGreat
namespace Tr
open Go Go.RowKit
def slotsOf(n:Nat)(l:List (Nat×AV)):List AV:=(List.range n).map fun i=>match l.find? fun p=>p.1 == i with|some p=>p.2|none=>.junk
def loopNo(fn:Func)(n:Nat):Code:=((fn.body.map loopsOf).getD []).getD n .skip
theorem givesBy_of{T T':Nat→Fact}{pairs:List (Nat×Nat)}{lits:List (LV×Nat)}(h1:∀ p∈pairs,T p.1=T' p.2)(h2:∀ p∈lits,∀ w A,T' p.2 p.1.val w A):GivesBy T T' pairs lits :=
 ⟨fun p hp v w A h=>by rw[←h1 p hp]; exact h,h2⟩
end Tr
namespace Go.Proofs.YthklnbaddobieaaGreat
open Go.RowKit Tr
def gcdS(x y:Nat):AS:={ tmps:=slotsOf 28 [(4,.r (.c (.own 2 0))),(5,.r (.c (.sym x))),(6,.r (.c (.sym y)))],blocks:=[.dead,.dead,.live ⟨[.lit (.bool false),.lit .str0],23,none⟩] }
def gcdE(g:Nat):AS:={ tmps:=slotsOf 28 [(4,.r (.c (.own 2 0))),(5,.r (.c (.sym g)))],blocks:=[.dead,.dead,.live ⟨[.lit (.bool false),.lit .str0],23,none⟩] }
def gcdLC:LC:={ key:=2,pre:=gcdS 4 5,ex:=.exit 0,post:=gcdE 6 }
def gcdL(a b:Nat):List GF:=[gw (words a),gw (words b),gw (words (a / b)),gw (words (a % b)),gx (.int .i64 ((words b).length:Nat)),gx (.bool (decide (0<(words b).length)))]
structure GcdI(g:Nat) where
 a:Nat
 b:Nat
 h:Nat.gcd a b=g
 la:WL a 536870912
 lb:WL b 536870912
def gcdC{g:Nat}(i:GcdI g)(hp:Bool)(e:hp=true):List (GC Tryz.prog (gcdL i.a i.b) hp) :=
 if h:0<i.b then[gm2 170 (.c (.sym 0)) (.c (.sym 1)) (.tup [.c (.sym 2),.c (.sym 3)]) eo170 (fun w A u v hR hu hv=>(gDivided i.a i.b h (i.la.mono (by decide)) w A u v (fun _=>hR e) hu hv).mono fun r w' ⟨v1,v2,h1,h2,h3,h4⟩=>⟨_,h1,⟨[v1,v2],rfl,h2,h3,trivial⟩,h4⟩)] else[]
def gcdB{g:Nat}(i:GcdI g):List (GB Tryz.prog (gcdL i.a i.b)):=[gbInt .gtr 3 .i64 (.sym 4) (.lit (.int .i64 0)) ((words i.b).length:Nat) 0 (decide (0<i.b)) (by
  simp only[cmpB]; congr 1
  have:(words i.b).length=0↔i.b=0:=by rw[List.length_eq_zero_iff,words_eq_nil]
  simp only[gt_iff_lt,decide_eq_decide]; omega) rfl rfl]
def gcdO{g:Nat}(i:GcdI g):List (GO Tryz.prog (gcdL i.a i.b)):=[goLenG 129 (.c (.sym 1)) (.sym 4) (fun w A u ty hu=>run_len_ws (words i.b) w A u ty hu)]
def gcdX{g:Nat}(i:GcdI g):Cx:=gcx tys true (gcdL i.a i.b) (gcdC i true rfl) (gcdB i) (gcdO i)
theorem gcd_loop(x y:Int)(g:Nat)(hg:Nat.gcd x.natAbs y.natAbs=g)(hx:WL x.natAbs 536870912)(hy:WL y.natAbs 536870912)(cx0:Cx)(hc0:cx0.hp=true∧cx0.ints=gI (cz x++cz y++[gw (words x.natAbs),gw (words y.natAbs),gw (words g)]++cz (g:Int))) :
  gcdLC.Ok Tryz.prog (gT (cz x++cz y++[gw (words x.natAbs),gw (words y.natAbs),gw (words g)]++cz (g:Int))) cx0 (loopNo Tryz.f107 0):=by
 have ht0:TOk (gT (cz x++cz y++[gw (words x.natAbs),gw (words y.natAbs),gw (words g)]++cz (g:Int))) cx0.ints:=by
  rw[hc0.2]; exact(gcx_ok (P:=Tryz.prog) (hp:=true) tys_ok [] [] []).table
 refine loop_ok (ι:=GcdI g) (id:=0) ht0 mixed rfl (fun i=>gT (gcdL i.a i.b)) gcdX (fun i=>gcx_ok tys_ok _ _ _) (fun i=>hc0.1.symm) (fun i=>rfl) (gcdS 0 1) (by kernel_rfl) (fun i=>by kernel_rfl) (by kernel_rfl)
  (by unfold blocksOk okCells; rw[hc0.2]; simp[gcdLC,gcdE,AC.noint,LV.isInt]) 60 (fun i=>i.b) ⟨x.natAbs,y.natAbs,hg,hx,hy⟩ [(4,0),(5,1)] [] (by kernel_rfl)
  (givesBy_of (by intro p hp; simp only[List.mem_cons,List.not_mem_nil,or_false] at hp; rcases hp with rfl|rfl<;>rfl) (by intro p hp; cases hp)) fun i=>?_
 obtain⟨a,b,h,la,lb⟩:=i
 by_cases hb:0<b
 ·refine .inl ⟨⟨b,a % b,by rw[←h,Nat.gcd_comm a b,Nat.gcd_rec b a,Nat.gcd_comm],lb,la.mod⟩,[(1,0),(3,1)],[],?_,givesBy_of (by intro p hp; simp only[List.mem_cons,List.not_mem_nil,or_false] at hp; rcases hp with rfl|rfl<;>rfl) (by intro p hp; cases hp),Nat.mod_lt _ hb⟩
  unfold gcdX gcdC gcdB
  simp only[hb,dif_pos,decide_true]
  kernel_rfl
 ·refine .inr ⟨[(0,6)],[],?_,givesBy_of (by
   intro p hp; simp only[List.mem_cons,List.not_mem_nil,or_false] at hp; subst hp
   have hb0:b=0:=by omega
   subst hb0
   rw[Nat.gcd_zero_right] at h
   subst h
   rfl) (by intro p hp; cases hp)⟩
  unfold gcdX gcdC gcdB
  simp only[hb,dif_neg,decide_false,not_false_eq_true]
  kernel_rfl
theorem sgcd(x y:Int)(hx:WL x.natAbs 536870912)(hy:WL y.natAbs 536870912):PureC Tryz.prog 107 [encZ x,encZ y] (encZ ((Nat.gcd x.natAbs y.natAbs:Nat):Int)):=by
  intro w
  obtain⟨g,hg⟩:∃ g,Nat.gcd x.natAbs y.natAbs=g:=⟨_,rfl⟩
  rw[hg]
  have hgl:WL g 536870912:=by
    rcases Nat.eq_zero_or_pos x.natAbs with h0|h0
    · rw[h0,Nat.gcd_zero_left] at hg; rw[←hg]; exact hy
    · rw[←hg]; exact wl_mono (Nat.gcd_le_left _ h0) hx
  have hm:=gMade false g (hgl.mono (by decide))
  rw[show sgn false g=(g:Int) from rfl] at hm
  have:=ev_loop (hp:=true) (L:=cz x++cz y++[gw (words x.natAbs),gw (words y.natAbs),gw (words g)]++cz (g:Int)) tys_ok mixed
    [gm1 169 (.c (.sym 1)) (.r (.c (.sym 4))) eo169 (gWords _ (hx.mono (by decide))),gm1 169 (.c (.sym 3)) (.r (.c (.sym 5))) eo169 (gWords _ (hy.mono (by decide))),gm2x 144 (.c (.lit (.bool false))) (.c (.sym 6)) (.r (.row (zA 7))) eo144 hm] [] [] [gcdLC]
    Tryz.func107 100 [.row (zA 0),.row (zA 2)] (.r (.row (zA 7))) (by kernel_rfl) (by kernel_rfl) rfl (fun z hz k hk _=>by
      have e1:z=loopNo Tryz.f107 0:=List.mem_singleton.1 hz
      have e2:k=gcdLC:=List.mem_singleton.1 hk
      subst e1; subst e2
      exact gcd_loop x y g hg hx hy _ ⟨rfl,rfl⟩) w NoA [encZ x,encZ y] (fun _=>rcv_none w) (fun _ h=>h.elim) ((arsV_ok rfl).2 rfl)
  exact this.mono fun r w' ⟨u,h1,h2,h3⟩=>⟨by rw[h1,(AV.gv_ok (u:=encZ (g:Int)) rfl).1 h2],h3⟩
end Go.Proofs.YthklnbaddobieaaGreat
