/- Laws for the walk. -/
import Derived.Test.YthklnbaddobieaaGreatUaz
set_option linter.unusedVariables false
set_option maxHeartbeats 4000000
namespace Go.Proofs.YthklnbaddobieaaGreat
open Go.RowKit Tr
theorem conv_u64(n:Int)(t:TypeId)(ht:Tryz.prog.underlying t=some (.int .u64))(m:Int)(hm:IntKind.u64.wrap n=m):∀ w,(convert 2 t (.int .i64 n)).run Tryz.prog w=.ok (.int .u64 m) w:=by
 intro w; simp[convert,run_underlying Tryz.underlying2,run_underlying ht,Conv.intToInt,hm]
theorem conv_u32(n:Int)(s t:TypeId)(hs:∃ d,Tryz.prog.underlying s=some d)(ht:Tryz.prog.underlying t=some (.int .u32))(m:Int)(hm:IntKind.u32.wrap n=m):∀ w,(convert s t (.int .u64 n)).run Tryz.prog w=.ok (.int .u32 m) w:=by
 obtain⟨d,hs⟩:=hs
 intro w; simp[convert,run_underlying hs,run_underlying ht,Conv.intToInt,hm]
theorem u64_rem(t:TypeId)(a b:Nat)(hb:b≠0):∀(xo yo:Operand) (w:World),(do eqGuard .rem t xo yo (.int .u64 a) (.int .u64 b); binOp .rem t (.int .u64 a) (.int .u64 b):Sem Value).run Tryz.prog w=.ok (.int .u64 ((a % b:Nat):Int)) w:=by
 intro xo yo w
 have h3:((a:Int).tmod (b:Int))=((a % b:Nat):Int):=by rw[Int.ofNat_tmod]
 simp[eqGuard,binOp,Op.intDiv,hb]
 exact h3
theorem u64_quo(t:TypeId)(a b:Nat)(hb:b≠0)(ha:a<18446744073709551616):∀(xo yo:Operand) (w:World),(do eqGuard .quo t xo yo (.int .u64 a) (.int .u64 b); binOp .quo t (.int .u64 a) (.int .u64 b):Sem Value).run Tryz.prog w=.ok (.int .u64 ((a / b:Nat):Int)) w:=by
 intro xo yo w
 have h1:a / b≤a:=Nat.div_le_self a b
 obtain⟨q,hq⟩:∃ q,q=a / b:=⟨_,rfl⟩
 rw[←hq] at h1 ⊢
 have h2:IntKind.u64.wrap (q:Int)=(q:Int):=by rw[IntKind.wrap_u64]; omega
 have h3:((a:Int).tdiv (b:Int))=(q:Int):=by rw[hq,Int.ofNat_tdiv]
 simp only[eqGuard,binOp,Op.intDiv,Sem.run_bind]
 simp[hb,h3,h2]
theorem two_words(u:Nat)(hu:u<18446744073709551616):wv [u % 4294967296,u / 4294967296]=u∧WOk [u % 4294967296,u / 4294967296]:=by
 refine⟨by simp[wv]; omega,?_⟩
 rw[wok_cons,wok_cons]
 exact⟨by omega,by omega,wok_nil⟩
theorem made_lit(neg:Bool)(u:Nat)(hu:u<18446744073709551616)(w:World)(n:Nat)(vs:List Value)(hn:w.heap[n]?=some (.cells vs.toArray 192 (0,0)))(hv:vs=[.int .u32 ((u % 4294967296:Nat):Int),.int .u32 ((u / 4294967296:Nat):Int)]) :
  Calls Tryz.prog 144 #[.bool neg,.slice (some ⟨n,0,none⟩) 2 2] w fun e w'=>e=.returned (encZ (sgn neg u))∧Below w.heap.size w w':=by
 obtain⟨h1,h2⟩:=two_words u hu
 have:=smade_any neg [u % 4294967296,u / 4294967296] (.slice (some ⟨n,0,none⟩) 2 2) w h2 ⟨_,2,rfl,by simp,fun _=>⟨n,0,rfl,(Array.getElem?_eq_some_iff.1 hn).1,fun j hj=>by
  subst hv
  match j,hj with
  | 0,_=>simp[World.cell?,hn]
  | 1,_=>simp[World.cell?,hn]
  | j+2,hj=>exact absurd hj (by simp)⟩⟩ (by simp)
 rw[h1] at this
 exact this
def gMadeL{L:List GF}(neg:Bool)(u:Nat)(hu:u<18446744073709551616)(b:Nat)(x:AC)(lo hi:Nat)(res:AV)(hlo:(AC.sym lo).gv L=some (.int .u32 ((u % 4294967296:Nat):Int)))(hhi:(AC.sym hi).gv L=some (.int .u32 ((u / 4294967296:Nat):Int)))(hx:x.gv L=some (.bool neg))(hr:res.gv L=some (encZ (sgn neg u))):GC Tryz.prog L false :=
 ⟨{ f:=144,args:=[.c x,.c (.sl b 0 2 2)],res,needs:=[(b,⟨[.sym lo,.sym hi],192,none⟩)] },eo144,fun σ w A us _ _ hu' hn=>by
  match us,hu' with
  | [u1,u2],⟨h1,h2,_⟩ =>
   obtain⟨m,e1,e2⟩:=h2
   obtain⟨⟨n,vs,k1,k2,k3,k4⟩,_⟩:=hn
   rw[e1] at k1; cases k1
   have e3:u1=.bool neg:=(AC.gv_ok (x:=x) hx).1 h1
   subst e3; subst e2
   have hv:vs=[.int .u32 ((u % 4294967296:Nat):Int),.int .u32 ((u / 4294967296:Nat):Int)]:=by
    match vs,k4 with
    | [a,b],⟨g1,g2,_⟩=>rw[(AC.gv_ok (x:=.sym lo) hlo).1 g1,(AC.gv_ok (x:=.sym hi) hhi).1 g2]
   exact(made_lit neg u hu w m vs k3 hv).mono fun r w' ⟨h1,h2⟩=>⟨_,h1,(AV.gv_ok hr).2 rfl,h2⟩⟩
theorem sof(n:Int)(h1:-9223372036854775808≤n)(h2:n<9223372036854775808):PureC Tryz.prog 79 [.int .i64 n] (encZ n):=by
  obtain⟨u,hu⟩:∃ u,u=n.natAbs:=⟨_,rfl⟩
  have hu64:u<18446744073709551616:=by omega
  have hz:sgn (decide (n<0)) u=n:=by rw[hu]; exact sgn_self n
  by_cases hneg:n<0
  · have hd:decide (n<0)=true:=by simp[hneg]
    rw[hd] at hz
    have hw:IntKind.u64.wrap n=18446744073709551616 - (u:Int):=by rw[IntKind.wrap_u64]; omega
    have hw2:IntKind.u64.wrap (0 - (18446744073709551616 - (u:Int)))=(u:Int):=by rw[IntKind.wrap_u64]; omega
    exact ev_pure (hp:=false) (L:=[gx (.int .i64 n),gx (.int .u64 (18446744073709551616 - (u:Int))),gx (.int .u64 (u:Int)),gx (.int .u64 ((u % 4294967296:Nat):Int)),gx (.int .u64 ((u / 4294967296:Nat):Int)),gx (.int .u32 ((u % 4294967296:Nat):Int)),gx (.int .u32 ((u / 4294967296:Nat):Int))]++cz n) tys_ok mixed
      [gMadeL true u hu64 17 (.lit (.bool true)) 5 6 (.r (.row (zA 7))) rfl rfl rfl (by rw[hz]; rfl)]
      [gbInt .lss 2 .i64 (.sym 0) (.lit (.int .i64 0)) n 0 true (by simp[cmpB,hneg]) rfl rfl,gb .rem 41 (.c (.sym 2)) (.c (.lit (.int .u64 4294967296))) (.sym 3) (u64_rem _ u 4294967296 (by decide)) rfl rfl rfl,gb .quo 41 (.c (.sym 2)) (.c (.lit (.int .u64 4294967296))) (.sym 4) (u64_quo _ u 4294967296 (by decide) hu64) rfl rfl rfl]
      [goConv 2 41 (.c (.sym 0)) (.sym 1) (conv_u64 n _ Tryz.underlying41 _ hw) rfl rfl,goNeg (.c (.sym 1)) (.sym 2) (fun w=>by simp only[Op.unary,Op.intArith,Sem.run_pure,hw2]) rfl rfl,goConv 41 192 (.c (.sym 3)) (.sym 5) (conv_u32 _ _ _ ⟨_,Tryz.underlying41⟩ Tryz.underlying192 _ (by rw[IntKind.wrap_u32]; omega)) rfl rfl,goConv 41 192 (.c (.sym 4)) (.sym 6) (conv_u32 _ _ _ ⟨_,Tryz.underlying41⟩ Tryz.underlying192 _ (by rw[IntKind.wrap_u32]; omega)) rfl rfl]
      Tryz.func79 100 [.c (.sym 0)] (.r (.row (zA 7))) (by kernel_rfl) rfl rfl
  · have hd:decide (n<0)=false:=by simp; omega
    rw[hd] at hz
    have hw:IntKind.u64.wrap n=(u:Int):=by rw[IntKind.wrap_u64]; omega
    exact ev_pure (hp:=false) (L:=[gx (.int .i64 n),gx (.bool true),gx (.int .u64 (u:Int)),gx (.int .u64 ((u % 4294967296:Nat):Int)),gx (.int .u64 ((u / 4294967296:Nat):Int)),gx (.int .u32 ((u % 4294967296:Nat):Int)),gx (.int .u32 ((u / 4294967296:Nat):Int))]++cz n) tys_ok mixed
      [gMadeL false u hu64 14 (.lit (.bool false)) 5 6 (.r (.row (zA 7))) rfl rfl rfl (by rw[hz]; rfl)]
      [gbInt .lss 2 .i64 (.sym 0) (.lit (.int .i64 0)) n 0 false (by simp[cmpB]; omega) rfl rfl,gb .rem 41 (.c (.sym 2)) (.c (.lit (.int .u64 4294967296))) (.sym 3) (u64_rem _ u 4294967296 (by decide)) rfl rfl rfl,gb .quo 41 (.c (.sym 2)) (.c (.lit (.int .u64 4294967296))) (.sym 4) (u64_quo _ u 4294967296 (by decide) hu64) rfl rfl rfl]
      [goConv 2 41 (.c (.sym 0)) (.sym 2) (conv_u64 n _ Tryz.underlying41 _ hw) rfl rfl,goConv 41 192 (.c (.sym 3)) (.sym 5) (conv_u32 _ _ _ ⟨_,Tryz.underlying41⟩ Tryz.underlying192 _ (by rw[IntKind.wrap_u32]; omega)) rfl rfl,goConv 41 192 (.c (.sym 4)) (.sym 6) (conv_u32 _ _ _ ⟨_,Tryz.underlying41⟩ Tryz.underlying192 _ (by rw[IntKind.wrap_u32]; omega)) rfl rfl]
      Tryz.func79 100 [.c (.sym 0)] (.r (.row (zA 7))) (by kernel_rfl) rfl rfl
theorem run_len_ws(l:List Nat)(w:World)(A:Nat→Prop)(u:Value)(ty:TypeId)(hu:WsF l u w A):(Builtin.len_ #[129] ty #[u]).run Tryz.prog w=.ok (.int .i64 (l.length:Nat)) w:=by
 obtain⟨p,c,rfl,_⟩:=hu
 simp[Builtin.len_,run_underlying Tryz.underlying129,goInt]
theorem ediv_pos_left{x y:Int}(hx:0≤x):x / y=sgn (decide (y<0)) (x.natAbs / y.natAbs)∧x % y=((x.natAbs % y.natAbs:Nat):Int):=by
 obtain⟨a,rfl⟩:∃ a:Nat,x=a:=⟨x.natAbs,by omega⟩
 rcases(show y<0∨0≤y by omega) with h|h
 ·obtain⟨b,rfl⟩:∃ b:Nat,y=-(b:Int):=⟨y.natAbs,by omega⟩
  unfold sgn
  simp[Int.ediv_neg,Int.emod_neg]
  intro h0; omega
 ·obtain⟨b,rfl⟩:∃ b:Nat,y=b:=⟨y.natAbs,by omega⟩
  have:¬((b:Int)<0):=by omega
  unfold sgn
  simp[this]
theorem ediv_neg_zero{x y:Int}(hx:x<0)(hy:y≠0)(hr:x.natAbs % y.natAbs=0):x / y=sgn (!decide (y<0)) (x.natAbs / y.natAbs)∧x % y=0:=by
 obtain⟨a,rfl⟩:∃ a:Nat,x=-(a:Int):=⟨x.natAbs,by omega⟩
 have hd:=Nat.dvd_of_mod_eq_zero hr
 simp only[Int.natAbs_neg,Int.natAbs_natCast] at hr hd ⊢
 rcases(show y<0∨0≤y by omega) with h|h
 ·obtain⟨b,rfl⟩:∃ b:Nat,y=-(b:Int):=⟨y.natAbs,by omega⟩
  simp only[Int.natAbs_neg,Int.natAbs_natCast] at hd hr ⊢
  obtain⟨c,rfl⟩:=hd
  have hb:0<b:=by omega
  unfold sgn
  simp[Int.ediv_neg,Int.emod_neg,Nat.mul_div_cancel_left c hb]
  rw[←Int.mul_neg,Int.mul_ediv_cancel_left _ (by omega)]
  simp
  intro h0; omega
 ·obtain⟨b,rfl⟩:∃ b:Nat,y=b:=⟨y.natAbs,by omega⟩
  simp only[Int.natAbs_natCast] at hd hr ⊢
  obtain⟨c,rfl⟩:=hd
  have hb:0<b:=by omega
  have:¬((b:Int)<0):=by omega
  unfold sgn
  simp[this,Nat.mul_div_cancel_left c hb]
  rw[←Int.mul_neg,Int.mul_ediv_cancel_left _ (by omega)]
theorem ediv_unique{x y q r:Int}(hy:y≠0)(h:x=y*q+r)(h0:0≤r)(h1:r<y.natAbs):x / y=q∧x % y=r:=by
 rw[h]
 have hr:r / y=0:=by
  rcases(show y<0∨0≤y by omega) with hn|hp
  ·obtain⟨b,rfl⟩:∃ b:Nat,y=-(b:Int):=⟨y.natAbs,by omega⟩
   rw[Int.ediv_neg,Int.ediv_eq_zero_of_lt h0 (by omega)]; rfl
  ·exact Int.ediv_eq_zero_of_lt h0 (by omega)
 constructor
 ·rw[Int.mul_add_ediv_left _ _ hy,hr,Int.add_zero]
 ·rw[Int.mul_add_emod_self_left]
  have:=Int.mul_ediv_add_emod r y
  rw[hr] at this
  omega
theorem ediv_neg_pos{x y:Int}(hx:x<0)(hy:y≠0)(hr:x.natAbs % y.natAbs≠0) :
  (y<0→x / y=((x.natAbs / y.natAbs:Nat):Int)+1)∧(0<y→x / y=-((x.natAbs / y.natAbs:Nat):Int) - 1)∧x % y=(y.natAbs:Int) - ((x.natAbs % y.natAbs:Nat):Int):=by
 obtain⟨a,rfl⟩:∃ a:Nat,x=-(a:Int):=⟨x.natAbs,by omega⟩
 simp only[Int.natAbs_neg,Int.natAbs_natCast] at hr ⊢
 have hb0:0<y.natAbs:=by omega
 have h1:=Nat.div_add_mod a y.natAbs
 have h2:=Nat.mod_lt a hb0
 obtain⟨q,hq⟩:∃ q,q=a / y.natAbs:=⟨_,rfl⟩
 obtain⟨r,hr'⟩:∃ r,r=a % y.natAbs:=⟨_,rfl⟩
 rw[←hq,←hr'] at h1
 rw[←hr'] at h2 hr
 rw[←hq,←hr']
 have h3:(y.natAbs:Int)*q+r=a:=by rw[←h1]; simp
 rcases(show y<0∨0≤y by omega) with h|h
 ·have hyn:(y.natAbs:Int)=-y:=by omega
  rw[hyn] at h3 ⊢
  have:=ediv_unique (x:=-(a:Int)) (y:=y) (q:=(q:Int)+1) (r:=-y - r) hy (by rw[Int.mul_add,Int.mul_one,←h3,Int.neg_mul]; omega) (by omega) (by omega)
  exact⟨fun _=>this.1,fun h'=>by omega,this.2⟩
 ·have hyn:(y.natAbs:Int)=y:=by omega
  rw[hyn] at h3 ⊢
  have:=ediv_unique (x:=-(a:Int)) (y:=y) (q:=-(q:Int) - 1) (r:=y - r) hy (by rw[Int.mul_sub,Int.mul_one,←h3,Int.mul_neg]; omega) (by omega) (by omega)
  exact⟨fun h'=>by omega,fun _=>this.1,this.2⟩
theorem WL.div{a b k:Nat}(h:WL a k):WL (a / b) k:=wl_mono (Nat.div_le_self a b) h
theorem WL.mod{a b k:Nat}(h:WL a k):WL (a % b) k:=wl_mono (Nat.mod_le a b) h
theorem WL.one:WL 1 1:=words_length_le (by decide)
theorem WL.zero(k:Nat):WL 0 k:=by unfold WL; rw[words_zero]; exact Nat.zero_le _
theorem natAbs_sgn'(neg:Bool)(a k:Nat)(h:WL a k):WL (sgn neg a).natAbs k:=by rw[natAbs_sgn]; exact h
theorem sdm_pos (a : Nat) (y : Int) (hy : y ≠ 0) (ha : WL a 536870912) (hb : WL y.natAbs 536870912) :
    PureC Tryz.prog 143 [.agg #[.bool false,.string (strN a)],encZ y] (.tuple #[encZ (sgn (decide (y<0)) (a / y.natAbs)),encZ ((a % y.natAbs:Nat):Int)]):=by
  have hb0:0<y.natAbs:=by omega
  have h1:=gMade (decide (y<0)) (a / y.natAbs) (ha.div.mono (by decide))
  have h2:=gMade false (a % y.natAbs) (ha.mod.mono (by decide))
  rw[show sgn false (a % y.natAbs)=((a % y.natAbs:Nat):Int) from rfl] at h2
  exact ev_pure (hp:=true) (L:=[gx (.string (strN a)),gx (.string (strN y.natAbs)),gw (words a),gw (words y.natAbs),gw (words (a / y.natAbs)),gw (words (a % y.natAbs)),gx (.bool (decide (y<0)))]++cz (sgn (decide (y<0)) (a / y.natAbs))++cz ((a % y.natAbs:Nat):Int)) tys_ok mixed
    [gm1 169 (.c (.sym 0)) (.r (.c (.sym 2))) eo169 (gWords _ (ha.mono (by decide))),gm1 169 (.c (.sym 1)) (.r (.c (.sym 3))) eo169 (gWords _ (hb.mono (by decide))),gm2 170 (.c (.sym 2)) (.c (.sym 3)) (.tup [.c (.sym 4),.c (.sym 5)]) eo170 (fun w A u v hR hu hv=>(gDivided a y.natAbs hb0 (ha.mono (by decide)) w A u v hR hu hv).mono fun r w' ⟨v1,v2,h1,h2,h3,h4⟩=>⟨_,h1,⟨[v1,v2],rfl,h2,h3,trivial⟩,h4⟩),gm2x 144 (.c (.sym 6)) (.c (.sym 4)) (.r (.row (zA 7))) eo144 h1,gm2x 144 (.c (.lit (.bool false))) (.c (.sym 5)) (.r (.row (zA 9))) eo144 h2]
    [gb .neq 4 (.c (.lit (.bool false))) (.c (.sym 6)) (.sym 6) (bool_neq Tryz.underlying4 _ _ _ (by cases decide (y<0)<;>rfl)) rfl rfl rfl] []
    Tryz.func143 100 [.row [.lit (.bool false),.sym 0],.row [.sym 6,.sym 1]] (.tup [.row (zA 7),.row (zA 9)]) (by kernel_rfl) rfl rfl
theorem sdm_even (a : Nat) (y : Int) (hy : y ≠ 0) (hr : a % y.natAbs = 0) (ha : WL a 536870912) (hb : WL y.natAbs 536870912) :
    PureC Tryz.prog 143 [.agg #[.bool true,.string (strN a)],encZ y] (.tuple #[encZ (sgn (!decide (y<0)) (a / y.natAbs)),encZ 0]):=by
  have hb0:0<y.natAbs:=by omega
  have h1:=gMade (!decide (y<0)) (a / y.natAbs) (ha.div.mono (by decide))
  have h2:=gMade false 0 (WL.zero _)
  rw[show sgn false 0=0 from rfl] at h2
  have hd:=gDivided a y.natAbs hb0 (ha.mono (by decide))
  rw[hr] at hd
  exact ev_pure (hp:=true) (L:=[gx (.string (strN a)),gx (.string (strN y.natAbs)),gw (words a),gw (words y.natAbs),gw (words (a / y.natAbs)),gw (words 0),gx (.bool (decide (y<0))),gx (.bool (!decide (y<0)))]++cz (sgn (!decide (y<0)) (a / y.natAbs))++cz 0) tys_ok mixed
    [gm1 169 (.c (.sym 0)) (.r (.c (.sym 2))) eo169 (gWords _ (ha.mono (by decide))),gm1 169 (.c (.sym 1)) (.r (.c (.sym 3))) eo169 (gWords _ (hb.mono (by decide))),gm2 170 (.c (.sym 2)) (.c (.sym 3)) (.tup [.c (.sym 4),.c (.sym 5)]) eo170 (fun w A u v hR hu hv=>(hd w A u v hR hu hv).mono fun r w' ⟨v1,v2,h1,h2,h3,h4⟩=>⟨_,h1,⟨[v1,v2],rfl,h2,h3,trivial⟩,h4⟩),gm2x 144 (.c (.sym 7)) (.c (.sym 4)) (.r (.row (zA 8))) eo144 h1,gm2x 144 (.c (.lit (.bool false))) (.c (.sym 5)) (.r (.row (zA 10))) eo144 h2]
    [gb .neq 4 (.c (.lit (.bool true))) (.c (.sym 6)) (.sym 7) (bool_neq Tryz.underlying4 _ _ _ (by cases decide (y<0)<;>rfl)) rfl rfl rfl]
    [goLenG 129 (.c (.sym 5)) (.lit (.int .i64 0)) (fun w A u ty hu=>by have:=run_len_ws (words 0) w A u ty hu; simpa[words_zero] using this)]
    Tryz.func143 100 [.row [.lit (.bool true),.sym 0],.row [.sym 6,.sym 1]] (.tup [.row (zA 8),.row (zA 10)]) (by kernel_rfl) rfl rfl
theorem sdm_odd (a : Nat) (yn : Bool) (b : Nat) (hb0 : 0 < b) (hr : a % b ≠ 0) (ha : WL a 536870912) (hb : WL b 536870912) (q : Int) (hq : q = if yn then sgn (!yn) (a / b) + 1 else sgn (!yn) (a / b) - 1) :
    PureC Tryz.prog 143 [.agg #[.bool true,.string (strN a)],.agg #[.bool yn,.string (strN b)]] (.tuple #[encZ q,encZ ((b:Int) - ((a % b:Nat):Int))]):=by
  have h1:=gMade (!yn) (a / b) (ha.div.mono (by decide))
  have h2:=gMade false (a % b) (ha.mod.mono (by decide))
  rw[show sgn false (a % b)=((a % b:Nat):Int) from rfl] at h2
  have hl:0<(words (a % b)).length:=List.length_pos_iff.2 (fun h=>hr (words_eq_nil.1 h))
  have hs:=sof 1 (by decide) (by decide)
  have hab:=sabs (sgn yn b)
  rw[natAbs_sgn] at hab
  have habs:encZ (sgn yn b)=.agg #[.bool yn,.string (strN b)]:=by
    unfold encZ; rw[natAbs_sgn,sgn_neg]; simp; omega
  rw[habs] at hab
  have hm:=sminus (b:Int) ((a % b:Nat):Int) (by rw[Int.natAbs_natCast]; exact hb.mono (by decide)) (by rw[Int.natAbs_natCast]; exact ha.mod.mono (by decide))
  cases yn
  · have hp:=sminus (sgn true (a / b)) 1 (natAbs_sgn' _ _ _ (ha.div.mono (by decide))) (WL.one.mono (by decide))
    simp only[Bool.not_false,Bool.false_eq_true,if_false] at hq
    rw[Bool.not_false] at h1
    rw[←hq] at hp
    exact ev_pure (hp:=true) (L:=[gx (.string (strN a)),gx (.string (strN b)),gw (words a),gw (words b),gw (words (a / b)),gw (words (a % b)),gx (.int .i64 ((words (a % b)).length:Nat))]++cz (sgn true (a / b))++cz ((a % b:Nat):Int)++cz 1++cz q++cz (b:Int)++cz ((b:Int) - ((a % b:Nat):Int))) tys_ok mixed
      [gm1 169 (.c (.sym 0)) (.r (.c (.sym 2))) eo169 (gWords _ (ha.mono (by decide))),gm1 169 (.c (.sym 1)) (.r (.c (.sym 3))) eo169 (gWords _ (hb.mono (by decide))),gm2 170 (.c (.sym 2)) (.c (.sym 3)) (.tup [.c (.sym 4),.c (.sym 5)]) eo170 (fun w A u v hR hu hv=>(gDivided a b hb0 (ha.mono (by decide)) w A u v hR hu hv).mono fun r w' ⟨v1,v2,h1,h2,h3,h4⟩=>⟨_,h1,⟨[v1,v2],rfl,h2,h3,trivial⟩,h4⟩),gm2x 144 (.c (.lit (.bool true))) (.c (.sym 4)) (.r (.row (zA 7))) eo144 h1,gm2x 144 (.c (.lit (.bool false))) (.c (.sym 5)) (.r (.row (zA 9))) eo144 h2,gp 79 [.c (.lit (.int .i64 1))] (.r (.row (zA 11))) eo79 hs rfl rfl,gp 199 [.row (zA 7),.row (zA 11)] (.r (.row (zA 13))) eo199 hp rfl rfl,gp 108 [.row [.lit (.bool false),.sym 1]] (.r (.row (zA 15))) eo108 hab rfl rfl,gp 199 [.row (zA 15),.row (zA 9)] (.r (.row (zA 17))) eo199 hm rfl rfl]
      [gbNeb 4 Tryz.underlying4 true false,gbInt .eql 3 .i64 (.sym 6) (.lit (.int .i64 0)) _ 0 false (by simp only[cmpB]; congr 1; simp only[beq_eq_false_iff_ne]; omega) rfl rfl]
      [goLenG 129 (.c (.sym 5)) (.sym 6) (fun w A u ty hu=>run_len_ws (words (a % b)) w A u ty hu)]
      Tryz.func143 100 [.row [.lit (.bool true),.sym 0],.row [.lit (.bool false),.sym 1]] (.tup [.row (zA 13),.row (zA 17)]) (by kernel_rfl) rfl rfl
  · have hp:=splus (sgn false (a / b)) 1 (natAbs_sgn' _ _ _ (ha.div.mono (by decide))) (WL.one.mono (by decide))
    simp only[Bool.not_true,if_true] at hq
    rw[Bool.not_true] at h1
    rw[←hq] at hp
    exact ev_pure (hp:=true) (L:=[gx (.string (strN a)),gx (.string (strN b)),gw (words a),gw (words b),gw (words (a / b)),gw (words (a % b)),gx (.int .i64 ((words (a % b)).length:Nat))]++cz (sgn false (a / b))++cz ((a % b:Nat):Int)++cz 1++cz q++cz (b:Int)++cz ((b:Int) - ((a % b:Nat):Int))) tys_ok mixed
      [gm1 169 (.c (.sym 0)) (.r (.c (.sym 2))) eo169 (gWords _ (ha.mono (by decide))),gm1 169 (.c (.sym 1)) (.r (.c (.sym 3))) eo169 (gWords _ (hb.mono (by decide))),gm2 170 (.c (.sym 2)) (.c (.sym 3)) (.tup [.c (.sym 4),.c (.sym 5)]) eo170 (fun w A u v hR hu hv=>(gDivided a b hb0 (ha.mono (by decide)) w A u v hR hu hv).mono fun r w' ⟨v1,v2,h1,h2,h3,h4⟩=>⟨_,h1,⟨[v1,v2],rfl,h2,h3,trivial⟩,h4⟩),gm2x 144 (.c (.lit (.bool false))) (.c (.sym 4)) (.r (.row (zA 7))) eo144 h1,gm2x 144 (.c (.lit (.bool false))) (.c (.sym 5)) (.r (.row (zA 9))) eo144 h2,gp 79 [.c (.lit (.int .i64 1))] (.r (.row (zA 11))) eo79 hs rfl rfl,gp 173 [.row (zA 7),.row (zA 11)] (.r (.row (zA 13))) eo173 hp rfl rfl,gp 108 [.row [.lit (.bool true),.sym 1]] (.r (.row (zA 15))) eo108 hab rfl rfl,gp 199 [.row (zA 15),.row (zA 9)] (.r (.row (zA 17))) eo199 hm rfl rfl]
      [gbNeb 4 Tryz.underlying4 true true,gbInt .eql 3 .i64 (.sym 6) (.lit (.int .i64 0)) _ 0 false (by simp only[cmpB]; congr 1; simp only[beq_eq_false_iff_ne]; omega) rfl rfl]
      [goLenG 129 (.c (.sym 5)) (.sym 6) (fun w A u ty hu=>run_len_ws (words (a % b)) w A u ty hu)]
      Tryz.func143 100 [.row [.lit (.bool true),.sym 0],.row [.lit (.bool true),.sym 1]] (.tup [.row (zA 13),.row (zA 17)]) (by kernel_rfl) rfl rfl
theorem sdivmod(x y:Int)(hy:y≠0)(hx:WL x.natAbs 536870912)(hyl:WL y.natAbs 536870912):PureC Tryz.prog 143 [encZ x,encZ y] (.tuple #[encZ (x / y),encZ (x % y)]):=by
 rcases(show x<0∨0≤x by omega) with h|h
 ·by_cases hr:x.natAbs % y.natAbs=0
  ·obtain⟨e1,e2⟩:=ediv_neg_zero h hy hr
   rw[e1,e2,encZ_neg h]
   exact sdm_even _ y hy hr hx hyl
  ·obtain⟨e1,e2,e3⟩:=ediv_neg_pos h hy hr
   have hq:x / y=if decide (y<0) then sgn (!decide (y<0)) (x.natAbs / y.natAbs)+1 else sgn (!decide (y<0)) (x.natAbs / y.natAbs) - 1:=by
    by_cases hn:y<0
    ·rw[e1 hn]; simp[hn,sgn]
    ·rw[e2 (by omega)]; simp[hn,sgn]
   rw[e3,encZ_neg h]
   exact sdm_odd x.natAbs (decide (y<0)) y.natAbs (by omega) hr hx hyl (x / y) hq
 ·obtain⟨e1,e2⟩:=ediv_pos_left (y:=y) h
  rw[e1,e2,encZ_pos h]
  exact sdm_pos _ y hy hx hyl
end Go.Proofs.YthklnbaddobieaaGreat
namespace Tr
open Go Go.RowKit
def blocksOk(cx:Cx)(s:AS):Bool:=s.blocks.all fun b=>match b with|.live ab|.lent ab=>okCells cx ab.cells|_=>true
def goesOn(cx:Cx)(fuel:Nat)(x:Code)(inv:AS)(pairs:List (Nat×Nat))(lits:List (LV×Nat)):Bool :=
 match evC cx fuel x inv with
 | some (.normal,s)=>tlS (relBy pairs lits) s inv
 | _=>false
def leaves(cx:Cx)(fuel:Nat)(x:Code)(inv:AS)(id:Nat)(post:AS)(pairs:List (Nat×Nat))(lits:List (LV×Nat)):Bool :=
 match evC cx fuel x inv with
 | some (.exit k,s)=>k == id && tlS (relBy pairs lits) s post
 | _=>false
def GivesBy(T T':Nat→Fact)(pairs:List (Nat×Nat))(lits:List (LV×Nat)):Prop :=
 (∀ p∈pairs,∀ v w A,T p.1 v w A→T' p.2 v w A)∧∀ p∈lits,∀ w A,T' p.2 p.1.val w A
theorem GivesBy.gives{T T':Nat→Fact}{pairs:List (Nat×Nat)}{lits:List (LV×Nat)}(h:GivesBy T T' pairs lits):Gives T T' (relBy pairs lits):=by
 intro x y hr σ v w A hx
 unfold relBy at hr
 split at hr
 ·rename_i i j
  rw[List.any_eq_true] at hr
  obtain⟨p,hp,he⟩:=hr
  simp only[Bool.and_eq_true,beq_iff_eq] at he
  obtain⟨rfl,rfl⟩:=he
  exact h.1 p hp v w A hx
 ·rename_i l j
  rw[List.any_eq_true] at hr
  obtain⟨p,hp,he⟩:=hr
  simp only[Bool.and_eq_true,beq_iff_eq] at he
  obtain⟨h1,rfl⟩:=he
  have:=LV.eq_of h1
  subst this
  rw[show v=p.1.val from hx]
  exact h.2 p hp w A
 ·rw[←LV.eq_of hr]; exact hx
 ·simp only[Bool.and_eq_true,beq_iff_eq] at hr
  obtain⟨rfl,rfl⟩:=hr; exact hx
 ·simp only[Bool.and_eq_true,beq_iff_eq] at hr
  obtain⟨⟨⟨rfl,rfl⟩,rfl⟩,rfl⟩:=hr; exact hx
 ·simp only[Bool.and_eq_true,beq_iff_eq] at hr
  obtain⟨⟨rfl,rfl⟩,rfl⟩:=hr; exact hx
 ·simp only[Bool.and_eq_true,beq_iff_eq] at hr
  obtain⟨⟨rfl,rfl⟩,rfl⟩:=hr; exact hx
 ·cases hr
section
variable{P:Program}
theorem loop_ok{ι:Type}{T0:Nat→Fact}{cx0:Cx}(h0:TOk T0 cx0.ints)(hm:P.follows .mixedOrders=true){k:LC}{x:Code}{id:Nat}(hex:k.ex=.exit id)(T:ι→Nat→Fact)(cx:ι→Cx)(C:∀ i,CxOk P (T i) (cx i))(hhp:∀ i,(cx i).hp=cx0.hp)(hcu:∀ i,(cx i).cuts=[])
  (inv:AS) (hlow:inv.low=true) (hok:∀ i,blocksOk (cx i) inv=true) (hlow':k.post.low=true) (hok':blocksOk cx0 k.post=true) (fuel:Nat) (μ:ι→Nat)
  (i0:ι) (pairs0:List (Nat×Nat)) (lits0:List (LV×Nat)) (hs:tlS (relBy pairs0 lits0) k.pre inv=true) (hg:GivesBy T0 (T i0) pairs0 lits0)
  (step:∀ i,(∃ j pairs lits,goesOn (cx i) fuel x inv pairs lits=true∧GivesBy (T i) (T j) pairs lits∧μ j<μ i)∨(∃ pairs lits,leaves (cx i) fuel x inv id k.post pairs lits=true∧GivesBy (T i) T0 pairs lits))
  (hdf:∀ i,(cx i).dfs=[]:=by intros; rfl):k.Ok P T0 cx0 x:=by
 intro hd0 A0 M w0 σ a w Q R hK
 have key:∀ n i σ a w,μ i<n→Rel (T i) (cx i) A0 M w0 σ0 σ inv a w→Code.rounds P x Q n a w:=by
  intro n
  induction n with
  | zero=>intro i σ a w h; omega
  | succ n ih =>
   intro i σ a w hlt R
   rw[rounds_succ]
   rcases step i with⟨j,pairs,lits,h1,h2,h3⟩|⟨pairs,lits,h1,h2⟩
   ·unfold goesOn at h1
    split at h1
    ·rename_i s1 he
     refine(evC_sound (C i) hm (.inl (hcu i)) (fun q hq=>by rw[hcu i] at hq; cases hq) fuel (fun y _ q hq=>by rw[hcu i] at hq; cases hq) R he fun σ' a' w' R'=>?_).1
     obtain⟨σ2,R2⟩:=R'.weaken (T':=T j) (cx':=cx j) (C j).table h2.gives (by rw[hhp i,hhp j]) (hok j) hlow h1 (by rw[hdf i,hdf j])
     exact ih j σ2 a' w' (by omega) R2
    ·cases h1
   ·unfold leaves at h1
    split at h1
    ·rename_i q s1 he
     simp only[Bool.and_eq_true,beq_iff_eq] at h1
     obtain⟨rfl,hle⟩:=h1
     refine(evC_sound (C i) hm (.inl (hcu i)) (fun q hq=>by rw[hcu i] at hq; cases hq) fuel (fun y _ q hq=>by rw[hcu i] at hq; cases hq) R he fun σ' a' w' R'=>?_).1
     obtain⟨σ2,R2⟩:=R'.weaken (T':=T0) (cx':=cx0) h0 h2.gives (hhp i).symm hok' hlow' hle (hd0.trans (hdf i).symm)
     have:=hK σ2 a' w' R2
     rw[hex] at this
     exact this
    ·cases h1
 obtain⟨σ1,R1⟩:=R.weaken (T':=T i0) (cx':=cx i0) (C i0).table hg.gives (hhp i0) (hok i0) hlow hs ((hdf i0).trans hd0.symm)
 exact wp_loop_rounds (μ i0+1) (key _ i0 σ1 a w (by omega) R1)
def gcl(tys:List (TypeId×TyI))(hp:Bool)(L:List GF)(C:List (GC P L hp))(B:List (GB P L))(O:List (GO P L))(cuts:List LC):Cx:={ gcx tys hp L C B O with cuts }
theorem gcl_ok{hp:Bool}{L:List GF}{tys:List (TypeId×TyI)}(ht:∀ p∈tys,p.2.good P p.1=true)(C:List (GC P L hp))(B:List (GB P L))(O:List (GO P L))(cuts:List LC):CxOk P (gT L) (gcl tys hp L C B O cuts) :=
 let h:=gcx_ok ht C B O
 ⟨h.table,h.tys,h.calls,h.enters,h.bins,h.others,no_inl _ rfl⟩
theorem ev_loop{hp:Bool}{L:List GF}{tys:List (TypeId×TyI)}(ht:∀ p∈tys,p.2.good P p.1=true)(hm:P.follows .mixedOrders=true)(C:List (GC P L hp))(B:List (GB P L))(O:List (GO P L))(cuts:List LC){f:FuncId}{fn:Func}(hf:P.funcs[f]?=some fn)(fuel:Nat)(args:List AR)(res:AV)
  (hev:evF (gcl tys hp L C B O cuts) fn fuel args res=true) (hpre:cuts.all (fun k=>k.pre.low && blocksOk (gcl tys hp L C B O cuts) k.pre)=true) {c:Code} (hc:fn.body=some c) (hcut:∀ x∈loopsOf c,∀ k∈cuts,keyOf x=some k.key→k.Ok P (gT L) (gcl tys hp L C B O cuts) x)
  (w:World) (A:Nat→Prop) (vs:List Value) (hR:hp=true→Rcv A w) (hA:∀ n,A n→n<w.heap.size) (hargs:okr (gT L) σ0 args vs w A) :
  Calls P f vs.toArray w fun r w'=>∃ v,r=.returned v∧res.ok (gT L) σ0 v w' A∧Below w.heap.size w w' :=
 ev_spec (gcl_ok ht C B O cuts) hm hf fuel hev (fun k hk=>List.all_eq_true.1 hpre k hk) (fun c' hc' x hx k hk hkey=>by rw[hc] at hc'; cases hc'; exact hcut x hx k hk hkey) σ0 w A vs hR hA hargs
end
end Tr
namespace Tr
open Go Go.RowKit
def slotsOf(n:Nat)(l:List (Nat×AV)):List AV:=(List.range n).map fun i=>match l.find? fun p=>p.1 == i with|some p=>p.2|none=>.junk
def loopNo(fn:Func)(n:Nat):Code:=((fn.body.map loopsOf).getD []).getD n .skip
theorem givesBy_of{T T':Nat→Fact}{pairs:List (Nat×Nat)}{lits:List (LV×Nat)}(h1:∀ p∈pairs,T p.1=T' p.2)(h2:∀ p∈lits,∀ w A,T' p.2 p.1.val w A):GivesBy T T' pairs lits :=
 ⟨fun p hp v w A h=>by rw[←h1 p hp]; exact h,h2⟩
end Tr
namespace Go.Proofs.YthklnbaddobieaaGreat
open Go.RowKit Tr
def gcdS(x y:Nat):AS:={ tmps:=slotsOf 28 [(4,.r (.c (.own 2 0))),(5,.r (.c (.sym x))),(6,.r (.c (.sym y)))],blocks:=[.dead,.dead,.live ⟨[.lit (.bool false),.lit .str0],23,none⟩] }
def gcdE(g:Nat):AS:={ tmps:=slotsOf 28 [(4,.r (.c (.own 2 0))),(5,.r (.c (.sym g)))],blocks:=[.dead,.dead,.live ⟨[.lit (.bool false),.lit .str0],23,none⟩] }
def gcdLC:LC:={ key:=2,pre:=gcdS 4 5,ex:=.exit 0,post:=gcdE 6 }
def gcdL(a b:Nat):List GF:=[gw (words a),gw (words b),gw (words (a / b)),gw (words (a % b)),gx (.int .i64 ((words b).length:Nat)),gx (.bool (decide (0<(words b).length)))]
structure GcdI(g:Nat) where
 a:Nat
 b:Nat
 h:Nat.gcd a b=g
 la:WL a 536870912
 lb:WL b 536870912
def gcdC{g:Nat}(i:GcdI g)(hp:Bool)(e:hp=true):List (GC Tryz.prog (gcdL i.a i.b) hp) :=
 if h:0<i.b then[gm2 170 (.c (.sym 0)) (.c (.sym 1)) (.tup [.c (.sym 2),.c (.sym 3)]) eo170 (fun w A u v hR hu hv=>(gDivided i.a i.b h (i.la.mono (by decide)) w A u v (fun _=>hR e) hu hv).mono fun r w' ⟨v1,v2,h1,h2,h3,h4⟩=>⟨_,h1,⟨[v1,v2],rfl,h2,h3,trivial⟩,h4⟩)] else[]
def gcdB{g:Nat}(i:GcdI g):List (GB Tryz.prog (gcdL i.a i.b)):=[gbInt .gtr 3 .i64 (.sym 4) (.lit (.int .i64 0)) ((words i.b).length:Nat) 0 (decide (0<i.b)) (by
  simp only[cmpB]; congr 1
  have:(words i.b).length=0↔i.b=0:=by rw[List.length_eq_zero_iff,words_eq_nil]
  simp only[gt_iff_lt,decide_eq_decide]; omega) rfl rfl]
def gcdO{g:Nat}(i:GcdI g):List (GO Tryz.prog (gcdL i.a i.b)):=[goLenG 129 (.c (.sym 1)) (.sym 4) (fun w A u ty hu=>run_len_ws (words i.b) w A u ty hu)]
def gcdX{g:Nat}(i:GcdI g):Cx:=gcx tys true (gcdL i.a i.b) (gcdC i true rfl) (gcdB i) (gcdO i)
theorem gcd_loop(x y:Int)(g:Nat)(hg:Nat.gcd x.natAbs y.natAbs=g)(hx:WL x.natAbs 536870912)(hy:WL y.natAbs 536870912)(cx0:Cx)(hc0:cx0.hp=true∧cx0.ints=gI (cz x++cz y++[gw (words x.natAbs),gw (words y.natAbs),gw (words g)]++cz (g:Int))) :
  gcdLC.Ok Tryz.prog (gT (cz x++cz y++[gw (words x.natAbs),gw (words y.natAbs),gw (words g)]++cz (g:Int))) cx0 (loopNo Tryz.f107 0):=by
 have ht0:TOk (gT (cz x++cz y++[gw (words x.natAbs),gw (words y.natAbs),gw (words g)]++cz (g:Int))) cx0.ints:=by
  rw[hc0.2]; exact(gcx_ok (P:=Tryz.prog) (hp:=true) tys_ok [] [] []).table
 refine loop_ok (ι:=GcdI g) (id:=0) ht0 mixed rfl (fun i=>gT (gcdL i.a i.b)) gcdX (fun i=>gcx_ok tys_ok _ _ _) (fun i=>hc0.1.symm) (fun i=>rfl) (gcdS 0 1) (by kernel_rfl) (fun i=>by kernel_rfl) (by kernel_rfl)
  (by unfold blocksOk okCells; rw[hc0.2]; simp[gcdLC,gcdE,AC.noint,LV.isInt]) 60 (fun i=>i.b) ⟨x.natAbs,y.natAbs,hg,hx,hy⟩ [(4,0),(5,1)] [] (by kernel_rfl)
  (givesBy_of (by intro p hp; simp only[List.mem_cons,List.not_mem_nil,or_false] at hp; rcases hp with rfl|rfl<;>rfl) (by intro p hp; cases hp)) fun i=>?_
 obtain⟨a,b,h,la,lb⟩:=i
 by_cases hb:0<b
 ·refine .inl ⟨⟨b,a % b,by rw[←h,Nat.gcd_comm a b,Nat.gcd_rec b a,Nat.gcd_comm],lb,la.mod⟩,[(1,0),(3,1)],[],?_,givesBy_of (by intro p hp; simp only[List.mem_cons,List.not_mem_nil,or_false] at hp; rcases hp with rfl|rfl<;>rfl) (by intro p hp; cases hp),Nat.mod_lt _ hb⟩
  unfold gcdX gcdC gcdB
  simp only[hb,dif_pos,decide_true]
  kernel_rfl
 ·refine .inr ⟨[(0,6)],[],?_,givesBy_of (by
   intro p hp; simp only[List.mem_cons,List.not_mem_nil,or_false] at hp; subst hp
   have hb0:b=0:=by omega
   subst hb0
   rw[Nat.gcd_zero_right] at h
   subst h
   rfl) (by intro p hp; cases hp)⟩
  unfold gcdX gcdC gcdB
  simp only[hb,dif_neg,decide_false,not_false_eq_true]
  kernel_rfl
theorem sgcd(x y:Int)(hx:WL x.natAbs 536870912)(hy:WL y.natAbs 536870912):PureC Tryz.prog 107 [encZ x,encZ y] (encZ ((Nat.gcd x.natAbs y.natAbs:Nat):Int)):=by
  intro w
  obtain⟨g,hg⟩:∃ g,Nat.gcd x.natAbs y.natAbs=g:=⟨_,rfl⟩
  rw[hg]
  have hgl:WL g 536870912:=by
    rcases Nat.eq_zero_or_pos x.natAbs with h0|h0
    · rw[h0,Nat.gcd_zero_left] at hg; rw[←hg]; exact hy
    · rw[←hg]; exact wl_mono (Nat.gcd_le_left _ h0) hx
  have hm:=gMade false g (hgl.mono (by decide))
  rw[show sgn false g=(g:Int) from rfl] at hm
  have:=ev_loop (hp:=true) (L:=cz x++cz y++[gw (words x.natAbs),gw (words y.natAbs),gw (words g)]++cz (g:Int)) tys_ok mixed
    [gm1 169 (.c (.sym 1)) (.r (.c (.sym 4))) eo169 (gWords _ (hx.mono (by decide))),gm1 169 (.c (.sym 3)) (.r (.c (.sym 5))) eo169 (gWords _ (hy.mono (by decide))),gm2x 144 (.c (.lit (.bool false))) (.c (.sym 6)) (.r (.row (zA 7))) eo144 hm] [] [] [gcdLC]
    Tryz.func107 100 [.row (zA 0),.row (zA 2)] (.r (.row (zA 7))) (by kernel_rfl) (by kernel_rfl) rfl (fun z hz k hk _=>by
      have e1:z=loopNo Tryz.f107 0:=List.mem_singleton.1 hz
      have e2:k=gcdLC:=List.mem_singleton.1 hk
      subst e1; subst e2
      exact gcd_loop x y g hg hx hy _ ⟨rfl,rfl⟩) w NoA [encZ x,encZ y] (fun _=>rcv_none w) (fun _ h=>h.elim) ((arsV_ok rfl).2 rfl)
  exact this.mono fun r w' ⟨u,h1,h2,h3⟩=>⟨by rw[h1,(AV.gv_ok (u:=encZ (g:Int)) rfl).1 h2],h3⟩
end Go.Proofs.YthklnbaddobieaaGreat
namespace Tr
open Go Go.RowKit Go.Proofs.YthklnbaddobieaaGreat
theorem RL.wn{q:Rat}{k:Nat}(h:RL q k):WL q.num.natAbs k:=h.1
theorem RL.wd{q:Rat}{k:Nat}(h:RL q k):WL q.den k:=h.2
end Tr
namespace Go.Proofs.YthklnbaddobieaaGreat
open Go.RowKit Tr
def encN(n:Nat):Value:=.agg #[.bool false,.string (strN n)]
theorem encZ_nat(n:Nat):encZ (n:Int)=encN n:=by
 unfold encZ encN
 simp
def cF(q:Rat):List GF:=[gx (.bool (decide (q.num<0))),gx (.string (strN q.num.natAbs)),gx (.string (strN q.den))]
theorem WL.i{n k:Nat}(h:WL n k):WL (n:Int).natAbs k:=by rw[Int.natAbs_natCast]; exact h
theorem WL.mul{x y:Int}{j k:Nat}(hx:WL x.natAbs j)(hy:WL y.natAbs k):WL (x*y).natAbs (j+k):=by rw[Int.natAbs_mul]; exact wl_mul hx hy
theorem WL.add{x y:Int}{k:Nat}(hx:WL x.natAbs k)(hy:WL y.natAbs k):WL (x+y).natAbs (k+1):=wl_mono (Int.natAbs_add_le x y) (wl_add hx hy)
theorem WL.neg{x:Int}{k:Nat}(hx:WL x.natAbs k):WL (-x).natAbs k:=by rw[Int.natAbs_neg]; exact hx
theorem divInt_quo{a b:Int}(hb:b≠0)(g:Int)(hg:g=if b<0 then -(Nat.gcd a.natAbs b.natAbs:Int) else(Nat.gcd a.natAbs b.natAbs:Int)):a / g=(Rat.divInt a b).num∧b / g=((Rat.divInt a b).den:Int):=by
 obtain⟨h1,h2⟩:=divInt_parts hb g hg
 have hd:∀ z:Int,((Nat.gcd a.natAbs b.natAbs:Nat):Int) ∣ z→g ∣ z:=fun z h=>by
  rw[hg]; split
  ·exact Int.neg_dvd.2 h
  ·exact h
 rw[h1,h2]
 exact⟨(Int.tdiv_eq_ediv_of_dvd (hd a (Int.ofNat_dvd_left.2 (Nat.gcd_dvd_left _ _)))).symm,(Int.tdiv_eq_ediv_of_dvd (hd b (Int.ofNat_dvd_left.2 (Nat.gcd_dvd_right _ _)))).symm⟩
theorem fof_pos(a b:Int)(hb1:0<b)(ha:WL a.natAbs 536870912)(hb:WL b.natAbs 536870912):PureC Tryz.prog 78 [encZ (a),encZ (b)] ((encF (Rat.divInt a b))):=by
  have hb0:b≠0:=by omega
  have hg0:0<Nat.gcd a.natAbs b.natAbs:=Nat.gcd_pos_of_pos_right _ (by omega)
  have hgl:WL (Nat.gcd a.natAbs b.natAbs) 536870912:=wl_mono (Nat.gcd_le_right _ (by omega)) hb
  obtain⟨e1,e2⟩:=divInt_quo (a:=a) (b:=b) hb0 _ rfl
  rw[if_neg (show ¬b<0 by omega)] at e1 e2
  have d1:=sdivmod a ((Nat.gcd a.natAbs b.natAbs:Nat):Int) (by omega) ha hgl.i
  have d2:=sdivmod b ((Nat.gcd a.natAbs b.natAbs:Nat):Int) (by omega) hb hgl.i
  rw[e1] at d1
  rw[e2,encZ_nat] at d2
  exact ev_pure (hp:=false) (L:=cz (a)++cz (b)++cz (((Nat.gcd a.natAbs b.natAbs:Nat):Int))++[gx (.int .i64 (b.sign))]++cz (a % ((Nat.gcd a.natAbs b.natAbs:Nat):Int))++cz (b % ((Nat.gcd a.natAbs b.natAbs:Nat):Int))++cF (Rat.divInt a b)) tys_ok mixed
    [gp 107 [.row [.sym 0,.sym 1],.row [.sym 2,.sym 3]] (.r (.row [.sym 4,.sym 5])) eo107 (sgcd a b ha hb) rfl rfl,gp 106 [.row [.sym 2,.sym 3]] (.r (.c (.sym 6))) eo106 (ssign b) rfl rfl,gp 143 [.row [.sym 0,.sym 1],.row [.sym 4,.sym 5]] (.tup [.row [.sym 11,.sym 12],.row [.sym 7,.sym 8]]) eo143 (d1) rfl rfl,gp 143 [.row [.sym 2,.sym 3],.row [.sym 4,.sym 5]] (.tup [.row [.lit (.bool false),.sym 13],.row [.sym 9,.sym 10]]) eo143 (d2) rfl rfl]
    [gbInt .lss 3 .i64 (.sym 6) (.lit (.int .i64 0)) b.sign 0 false (by rw[Int.sign_eq_one_of_pos hb1]; rfl) rfl rfl] []
    Tryz.func78 100 [.row [.sym 0,.sym 1],.row [.sym 2,.sym 3]] (.r (.row [.sym 11,.sym 12,.lit (.bool false),.sym 13])) (by kernel_rfl) rfl rfl
theorem fof_neg(a b:Int)(hb1:b<0)(ha:WL a.natAbs 536870912)(hb:WL b.natAbs 536870912):PureC Tryz.prog 78 [encZ (a),encZ (b)] ((encF (Rat.divInt a b))):=by
  have hb0:b≠0:=by omega
  have hg0:0<Nat.gcd a.natAbs b.natAbs:=Nat.gcd_pos_of_pos_right _ (by omega)
  have hgl:WL (Nat.gcd a.natAbs b.natAbs) 536870912:=wl_mono (Nat.gcd_le_right _ (by omega)) hb
  obtain⟨e1,e2⟩:=divInt_quo (a:=a) (b:=b) hb0 _ rfl
  rw[if_pos (show b<0 by omega)] at e1 e2
  have d1:=sdivmod a (-((Nat.gcd a.natAbs b.natAbs:Nat):Int)) (by omega) ha hgl.i.neg
  have d2:=sdivmod b (-((Nat.gcd a.natAbs b.natAbs:Nat):Int)) (by omega) hb hgl.i.neg
  rw[e1] at d1
  rw[e2,encZ_nat] at d2
  exact ev_pure (hp:=false) (L:=cz (a)++cz (b)++cz (((Nat.gcd a.natAbs b.natAbs:Nat):Int))++[gx (.int .i64 (b.sign))]++cz (-((Nat.gcd a.natAbs b.natAbs:Nat):Int))++cz (a % -((Nat.gcd a.natAbs b.natAbs:Nat):Int))++cz (b % -((Nat.gcd a.natAbs b.natAbs:Nat):Int))++cF (Rat.divInt a b)) tys_ok mixed
    [gp 107 [.row [.sym 0,.sym 1],.row [.sym 2,.sym 3]] (.r (.row [.sym 4,.sym 5])) eo107 (sgcd a b ha hb) rfl rfl,gp 106 [.row [.sym 2,.sym 3]] (.r (.c (.sym 6))) eo106 (ssign b) rfl rfl,gp 116 [.row [.sym 4,.sym 5]] (.r (.row [.sym 7,.sym 8])) eo116 (sneg _) rfl rfl,gp 143 [.row [.sym 0,.sym 1],.row [.sym 7,.sym 8]] (.tup [.row [.sym 13,.sym 14],.row [.sym 9,.sym 10]]) eo143 (d1) rfl rfl,gp 143 [.row [.sym 2,.sym 3],.row [.sym 7,.sym 8]] (.tup [.row [.lit (.bool false),.sym 15],.row [.sym 11,.sym 12]]) eo143 (d2) rfl rfl]
    [gbInt .lss 3 .i64 (.sym 6) (.lit (.int .i64 0)) b.sign 0 true (by rw[Int.sign_eq_neg_one_of_neg hb1]; rfl) rfl rfl] []
    Tryz.func78 100 [.row [.sym 0,.sym 1],.row [.sym 2,.sym 3]] (.r (.row [.sym 13,.sym 14,.lit (.bool false),.sym 15])) (by kernel_rfl) rfl rfl
theorem fof(a b:Int)(hb0:b≠0)(ha:WL a.natAbs 536870912)(hb:WL b.natAbs 536870912):PureC Tryz.prog 78 [encZ a,encZ b] (encF (Rat.divInt a b)):=by
 rcases(show b<0∨0<b by omega) with h|h
 ·exact fof_neg a b h ha hb
 ·exact fof_pos a b h ha hb
end Go.Proofs.YthklnbaddobieaaGreat
