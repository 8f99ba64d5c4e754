/- Laws for the walk. -/
import Derived.Test.YthklnbaddobieaaGreatZbc
set_option linter.unusedVariables false
set_option maxHeartbeats 4000000
namespace Go.Proofs.YthklnbaddobieaaGreat
open Go.RowKit Tr
theorem scmp(x y:Int)(hx:WL x.natAbs 1073741824)(hy:WL y.natAbs 1073741824):PureC Tryz.prog 109 [encZ x,encZ y] (.int .i64 (cmpI x y)):=by
  have sx:=ssign x
  have sy:=ssign y
  have hu:=gUnder x.natAbs y.natAbs (hx.mono (by decide))
  rcases Int.lt_trichotomy x 0 with h1|h1|h1<;>rcases Int.lt_trichotomy y 0 with h2|h2|h2
  · rw[Int.sign_eq_neg_one_of_neg h1] at sx; rw[Int.sign_eq_neg_one_of_neg h2] at sy
    rcases(by omega:x.natAbs<y.natAbs∨x.natAbs=y.natAbs∨y.natAbs<x.natAbs) with h3|h3|h3
    · rw[show cmpZ x.natAbs y.natAbs=-1 by unfold cmpZ; rw[if_pos (by omega)]] at hu
      rw[show cmpI x y=1 by unfold cmpI; rw[if_neg (by omega),if_pos (by omega)]]
      exact ev_pure (hp := true) (L := cz x ++ cz y ++ [gw (words x.natAbs),gw (words y.natAbs)]) tys_ok mixed
          [gp 106 [.row [.sym 0,.sym 1]] (.r (.c (.lit (.int .i64 (-1))))) eo106 sx rfl rfl,gp 106 [.row [.sym 2,.sym 3]] (.r (.c (.lit (.int .i64 (-1))))) eo106 sy rfl rfl,gm1 169 (.c (.sym 1)) (.r (.c (.sym 4))) eo169 (gWords x.natAbs (hx.mono (by decide))),gm1 169 (.c (.sym 3)) (.r (.c (.sym 5))) eo169 (gWords y.natAbs (hy.mono (by decide))),gm2x 171 (.c (.sym 4)) (.c (.sym 5)) (.r (.c (.lit (.int .i64 (-1))))) eo171 hu] [] []
          Tryz.func109 100 [.row [.sym 0,.sym 1],.row [.sym 2,.sym 3]] (.r (.c (.lit (.int .i64 1)))) (by kernel_rfl) rfl rfl
    · rw[show cmpZ x.natAbs y.natAbs=0 by unfold cmpZ; rw[if_neg (by omega),if_neg (by omega)]] at hu
      rw[show cmpI x y=0 by unfold cmpI; rw[if_neg (by omega),if_neg (by omega)]]
      exact ev_pure (hp := true) (L := cz x ++ cz y ++ [gw (words x.natAbs),gw (words y.natAbs)]) tys_ok mixed
          [gp 106 [.row [.sym 0,.sym 1]] (.r (.c (.lit (.int .i64 (-1))))) eo106 sx rfl rfl,gp 106 [.row [.sym 2,.sym 3]] (.r (.c (.lit (.int .i64 (-1))))) eo106 sy rfl rfl,gm1 169 (.c (.sym 1)) (.r (.c (.sym 4))) eo169 (gWords x.natAbs (hx.mono (by decide))),gm1 169 (.c (.sym 3)) (.r (.c (.sym 5))) eo169 (gWords y.natAbs (hy.mono (by decide))),gm2x 171 (.c (.sym 4)) (.c (.sym 5)) (.r (.c (.lit (.int .i64 0)))) eo171 hu] [] []
          Tryz.func109 100 [.row [.sym 0,.sym 1],.row [.sym 2,.sym 3]] (.r (.c (.lit (.int .i64 0)))) (by kernel_rfl) rfl rfl
    · rw[show cmpZ x.natAbs y.natAbs=1 by unfold cmpZ; rw[if_neg (by omega),if_pos (by omega)]] at hu
      rw[show cmpI x y=-1 by unfold cmpI; rw[if_pos (by omega)]]
      exact ev_pure (hp := true) (L := cz x ++ cz y ++ [gw (words x.natAbs),gw (words y.natAbs)]) tys_ok mixed
          [gp 106 [.row [.sym 0,.sym 1]] (.r (.c (.lit (.int .i64 (-1))))) eo106 sx rfl rfl,gp 106 [.row [.sym 2,.sym 3]] (.r (.c (.lit (.int .i64 (-1))))) eo106 sy rfl rfl,gm1 169 (.c (.sym 1)) (.r (.c (.sym 4))) eo169 (gWords x.natAbs (hx.mono (by decide))),gm1 169 (.c (.sym 3)) (.r (.c (.sym 5))) eo169 (gWords y.natAbs (hy.mono (by decide))),gm2x 171 (.c (.sym 4)) (.c (.sym 5)) (.r (.c (.lit (.int .i64 1)))) eo171 hu] [] []
          Tryz.func109 100 [.row [.sym 0,.sym 1],.row [.sym 2,.sym 3]] (.r (.c (.lit (.int .i64 (-1))))) (by kernel_rfl) rfl rfl
  · rw[Int.sign_eq_neg_one_of_neg h1] at sx; rw[(by rw[h2]; rfl:y.sign=0)] at sy
    rw[show cmpI x y=-1 by unfold cmpI; rw[if_pos (by omega)]]
    exact ev_pure (hp := true) (L := cz x ++ cz y ++ [gw (words x.natAbs),gw (words y.natAbs)]) tys_ok mixed
          [gp 106 [.row [.sym 0,.sym 1]] (.r (.c (.lit (.int .i64 (-1))))) eo106 sx rfl rfl,gp 106 [.row [.sym 2,.sym 3]] (.r (.c (.lit (.int .i64 0)))) eo106 sy rfl rfl] [] []
          Tryz.func109 100 [.row [.sym 0,.sym 1],.row [.sym 2,.sym 3]] (.r (.c (.lit (.int .i64 (-1))))) (by kernel_rfl) rfl rfl
  · rw[Int.sign_eq_neg_one_of_neg h1] at sx; rw[Int.sign_eq_one_of_pos h2] at sy
    rw[show cmpI x y=-1 by unfold cmpI; rw[if_pos (by omega)]]
    exact ev_pure (hp := true) (L := cz x ++ cz y ++ [gw (words x.natAbs),gw (words y.natAbs)]) tys_ok mixed
          [gp 106 [.row [.sym 0,.sym 1]] (.r (.c (.lit (.int .i64 (-1))))) eo106 sx rfl rfl,gp 106 [.row [.sym 2,.sym 3]] (.r (.c (.lit (.int .i64 1)))) eo106 sy rfl rfl] [] []
          Tryz.func109 100 [.row [.sym 0,.sym 1],.row [.sym 2,.sym 3]] (.r (.c (.lit (.int .i64 (-1))))) (by kernel_rfl) rfl rfl
  · rw[(by rw[h1]; rfl:x.sign=0)] at sx; rw[Int.sign_eq_neg_one_of_neg h2] at sy
    rw[show cmpI x y=1 by unfold cmpI; rw[if_neg (by omega),if_pos (by omega)]]
    exact ev_pure (hp := true) (L := cz x ++ cz y ++ [gw (words x.natAbs),gw (words y.natAbs)]) tys_ok mixed
          [gp 106 [.row [.sym 0,.sym 1]] (.r (.c (.lit (.int .i64 0)))) eo106 sx rfl rfl,gp 106 [.row [.sym 2,.sym 3]] (.r (.c (.lit (.int .i64 (-1))))) eo106 sy rfl rfl] [] []
          Tryz.func109 100 [.row [.sym 0,.sym 1],.row [.sym 2,.sym 3]] (.r (.c (.lit (.int .i64 1)))) (by kernel_rfl) rfl rfl
  · rw[(by rw[h1]; rfl:x.sign=0)] at sx; rw[(by rw[h2]; rfl:y.sign=0)] at sy
    rw[show cmpZ x.natAbs y.natAbs=0 by unfold cmpZ; rw[if_neg (by omega),if_neg (by omega)]] at hu
    rw[show cmpI x y=0 by unfold cmpI; rw[if_neg (by omega),if_neg (by omega)]]
    exact ev_pure (hp := true) (L := cz x ++ cz y ++ [gw (words x.natAbs),gw (words y.natAbs)]) tys_ok mixed
          [gp 106 [.row [.sym 0,.sym 1]] (.r (.c (.lit (.int .i64 0)))) eo106 sx rfl rfl,gp 106 [.row [.sym 2,.sym 3]] (.r (.c (.lit (.int .i64 0)))) eo106 sy rfl rfl,gm1 169 (.c (.sym 1)) (.r (.c (.sym 4))) eo169 (gWords x.natAbs (hx.mono (by decide))),gm1 169 (.c (.sym 3)) (.r (.c (.sym 5))) eo169 (gWords y.natAbs (hy.mono (by decide))),gm2x 171 (.c (.sym 4)) (.c (.sym 5)) (.r (.c (.lit (.int .i64 0)))) eo171 hu] [] []
          Tryz.func109 100 [.row [.sym 0,.sym 1],.row [.sym 2,.sym 3]] (.r (.c (.lit (.int .i64 0)))) (by kernel_rfl) rfl rfl
  · rw[(by rw[h1]; rfl:x.sign=0)] at sx; rw[Int.sign_eq_one_of_pos h2] at sy
    rw[show cmpI x y=-1 by unfold cmpI; rw[if_pos (by omega)]]
    exact ev_pure (hp := true) (L := cz x ++ cz y ++ [gw (words x.natAbs),gw (words y.natAbs)]) tys_ok mixed
          [gp 106 [.row [.sym 0,.sym 1]] (.r (.c (.lit (.int .i64 0)))) eo106 sx rfl rfl,gp 106 [.row [.sym 2,.sym 3]] (.r (.c (.lit (.int .i64 1)))) eo106 sy rfl rfl] [] []
          Tryz.func109 100 [.row [.sym 0,.sym 1],.row [.sym 2,.sym 3]] (.r (.c (.lit (.int .i64 (-1))))) (by kernel_rfl) rfl rfl
  · rw[Int.sign_eq_one_of_pos h1] at sx; rw[Int.sign_eq_neg_one_of_neg h2] at sy
    rw[show cmpI x y=1 by unfold cmpI; rw[if_neg (by omega),if_pos (by omega)]]
    exact ev_pure (hp := true) (L := cz x ++ cz y ++ [gw (words x.natAbs),gw (words y.natAbs)]) tys_ok mixed
          [gp 106 [.row [.sym 0,.sym 1]] (.r (.c (.lit (.int .i64 1)))) eo106 sx rfl rfl,gp 106 [.row [.sym 2,.sym 3]] (.r (.c (.lit (.int .i64 (-1))))) eo106 sy rfl rfl] [] []
          Tryz.func109 100 [.row [.sym 0,.sym 1],.row [.sym 2,.sym 3]] (.r (.c (.lit (.int .i64 1)))) (by kernel_rfl) rfl rfl
  · rw[Int.sign_eq_one_of_pos h1] at sx; rw[(by rw[h2]; rfl:y.sign=0)] at sy
    rw[show cmpI x y=1 by unfold cmpI; rw[if_neg (by omega),if_pos (by omega)]]
    exact ev_pure (hp := true) (L := cz x ++ cz y ++ [gw (words x.natAbs),gw (words y.natAbs)]) tys_ok mixed
          [gp 106 [.row [.sym 0,.sym 1]] (.r (.c (.lit (.int .i64 1)))) eo106 sx rfl rfl,gp 106 [.row [.sym 2,.sym 3]] (.r (.c (.lit (.int .i64 0)))) eo106 sy rfl rfl] [] []
          Tryz.func109 100 [.row [.sym 0,.sym 1],.row [.sym 2,.sym 3]] (.r (.c (.lit (.int .i64 1)))) (by kernel_rfl) rfl rfl
  · rw[Int.sign_eq_one_of_pos h1] at sx; rw[Int.sign_eq_one_of_pos h2] at sy
    rcases(by omega:x.natAbs<y.natAbs∨x.natAbs=y.natAbs∨y.natAbs<x.natAbs) with h3|h3|h3
    · rw[show cmpZ x.natAbs y.natAbs=-1 by unfold cmpZ; rw[if_pos (by omega)]] at hu
      rw[show cmpI x y=-1 by unfold cmpI; rw[if_pos (by omega)]]
      exact ev_pure (hp := true) (L := cz x ++ cz y ++ [gw (words x.natAbs),gw (words y.natAbs)]) tys_ok mixed
          [gp 106 [.row [.sym 0,.sym 1]] (.r (.c (.lit (.int .i64 1)))) eo106 sx rfl rfl,gp 106 [.row [.sym 2,.sym 3]] (.r (.c (.lit (.int .i64 1)))) eo106 sy rfl rfl,gm1 169 (.c (.sym 1)) (.r (.c (.sym 4))) eo169 (gWords x.natAbs (hx.mono (by decide))),gm1 169 (.c (.sym 3)) (.r (.c (.sym 5))) eo169 (gWords y.natAbs (hy.mono (by decide))),gm2x 171 (.c (.sym 4)) (.c (.sym 5)) (.r (.c (.lit (.int .i64 (-1))))) eo171 hu] [] []
          Tryz.func109 100 [.row [.sym 0,.sym 1],.row [.sym 2,.sym 3]] (.r (.c (.lit (.int .i64 (-1))))) (by kernel_rfl) rfl rfl
    · rw[show cmpZ x.natAbs y.natAbs=0 by unfold cmpZ; rw[if_neg (by omega),if_neg (by omega)]] at hu
      rw[show cmpI x y=0 by unfold cmpI; rw[if_neg (by omega),if_neg (by omega)]]
      exact ev_pure (hp := true) (L := cz x ++ cz y ++ [gw (words x.natAbs),gw (words y.natAbs)]) tys_ok mixed
          [gp 106 [.row [.sym 0,.sym 1]] (.r (.c (.lit (.int .i64 1)))) eo106 sx rfl rfl,gp 106 [.row [.sym 2,.sym 3]] (.r (.c (.lit (.int .i64 1)))) eo106 sy rfl rfl,gm1 169 (.c (.sym 1)) (.r (.c (.sym 4))) eo169 (gWords x.natAbs (hx.mono (by decide))),gm1 169 (.c (.sym 3)) (.r (.c (.sym 5))) eo169 (gWords y.natAbs (hy.mono (by decide))),gm2x 171 (.c (.sym 4)) (.c (.sym 5)) (.r (.c (.lit (.int .i64 0)))) eo171 hu] [] []
          Tryz.func109 100 [.row [.sym 0,.sym 1],.row [.sym 2,.sym 3]] (.r (.c (.lit (.int .i64 0)))) (by kernel_rfl) rfl rfl
    · rw[show cmpZ x.natAbs y.natAbs=1 by unfold cmpZ; rw[if_neg (by omega),if_pos (by omega)]] at hu
      rw[show cmpI x y=1 by unfold cmpI; rw[if_neg (by omega),if_pos (by omega)]]
      exact ev_pure (hp := true) (L := cz x ++ cz y ++ [gw (words x.natAbs),gw (words y.natAbs)]) tys_ok mixed
          [gp 106 [.row [.sym 0,.sym 1]] (.r (.c (.lit (.int .i64 1)))) eo106 sx rfl rfl,gp 106 [.row [.sym 2,.sym 3]] (.r (.c (.lit (.int .i64 1)))) eo106 sy rfl rfl,gm1 169 (.c (.sym 1)) (.r (.c (.sym 4))) eo169 (gWords x.natAbs (hx.mono (by decide))),gm1 169 (.c (.sym 3)) (.r (.c (.sym 5))) eo169 (gWords y.natAbs (hy.mono (by decide))),gm2x 171 (.c (.sym 4)) (.c (.sym 5)) (.r (.c (.lit (.int .i64 1)))) eo171 hu] [] []
          Tryz.func109 100 [.row [.sym 0,.sym 1],.row [.sym 2,.sym 3]] (.r (.c (.lit (.int .i64 1)))) (by kernel_rfl) rfl rfl
theorem fcmp(x y:Rat)(hx:RL x 134217728)(hy:RL y 134217728):PureC Tryz.prog 46 [encF x,encF y] (.int .i64 (cmpR x y)):=by
  have hc:=scmp (x.num*(y.den:Int)) (y.num*(x.den:Int)) ((WL.mul hx.wn hy.wd.i).mono (by decide)) ((WL.mul hy.wn hx.wd.i).mono (by decide))
  rw[cmpR_int] at hc
  exact ev_pure (hp:=false) (L:=cF (x)++cF (y)++cz (x.num*(y.den:Int))++cz (y.num*(x.den:Int))++[gx (.int .i64 (cmpR x y))]) tys_ok mixed
    [gp 110 [.row [.sym 0,.sym 1],.row [.lit (.bool false),.sym 5]] (.r (.row [.sym 6,.sym 7])) eo110 (stimes_zn _ _ (hx.wn.mono (by decide)) (hy.wd.mono (by decide))) rfl rfl,gp 110 [.row [.sym 3,.sym 4],.row [.lit (.bool false),.sym 2]] (.r (.row [.sym 8,.sym 9])) eo110 (stimes_zn _ _ (hy.wn.mono (by decide)) (hx.wd.mono (by decide))) rfl rfl,gp 109 [.row [.sym 6,.sym 7],.row [.sym 8,.sym 9]] (.r (.c (.sym 10))) eo109 hc rfl rfl]
    [] []
    Tryz.func46 100 [.row [.sym 0,.sym 1,.lit (.bool false),.sym 2],.row [.sym 3,.sym 4,.lit (.bool false),.sym 5]] (.r (.c (.sym 10))) (by kernel_rfl) rfl rfl
theorem fsmall(n d:Int)(h1:-9223372036854775808≤n)(h2:n<9223372036854775808)(h3:-9223372036854775808≤d)(h4:d<9223372036854775808)(h0:d≠0):PureC Tryz.prog 34 [.int .i64 n,.int .i64 d] (encF (Rat.divInt n d)):=by
  have ho:=fof n d h0 (Nat.le_trans (words_length_le (k:=2) (by omega)) (by decide)) (Nat.le_trans (words_length_le (k:=2) (by omega)) (by decide))
  exact ev_pure (hp:=false) (L:=[gx (.int .i64 n),gx (.int .i64 d)]++cz n++cz d++cF (Rat.divInt n d)) tys_ok mixed
    [gp 79 [.c (.sym 0)] (.r (.row [.sym 2,.sym 3])) eo79 (sof n h1 h2) rfl rfl,gp 79 [.c (.sym 1)] (.r (.row [.sym 4,.sym 5])) eo79 (sof d h3 h4) rfl rfl,gp 78 [.row [.sym 2,.sym 3],.row [.sym 4,.sym 5]] (.r (.row [.sym 6,.sym 7,.lit (.bool false),.sym 8])) eo78 ho rfl rfl]
    [] []
    Tryz.func34 100 [.c (.sym 0),.c (.sym 1)] (.r (.row [.sym 6,.sym 7,.lit (.bool false),.sym 8])) (by kernel_rfl) rfl rfl
end Go.Proofs.YthklnbaddobieaaGreat
namespace Go.Proofs.YthklnbaddobieaaGreat
open Go.RowKit Tr
def R1(q:Rat):FR:=.c (gr q)
theorem pRCmp(x y:Rat){m l:Nat}(hx:RL x m)(hy:RL y l)(hb:m+l<137438953472):SpecC Tryz.prog true 40 [R1 x,R1 y] (.r (.c (gx (.int .i64 (cmpR x y))))) :=
 spec2 eo40 fun w A u v hR _ hu hv=>(RCmp_any x y u v A w hu hv m l hx hy hb).mono fun e w' ⟨h1,h2⟩=>⟨_,h1,rfl,h2⟩
def F1(q:Rat):FR:=.row (rF q)
end Go.Proofs.YthklnbaddobieaaGreat
namespace Go.Proofs.YthklnbaddobieaaGreat
open Go.RowKit Tr
def zRA:List AC:=[.lit (.bool false),.lit .nils,.lit (.bool false),.lit .nils]
def giveR{L:List GF}{f:FuncId}(ent:Tr.Enters Tryz.prog f)(b:Nat)(args:List AR)(res:AC)(q:Rat)(fa:List FR)
  (h:∀(m:Nat) (C:Array Value) (w:World) (A:Nat→Prop) (vs:List Value),Rcv A w→w.heap[m]?=some (.cells C 133 (0,0))→C.size=4→NoW (.cells C 133 (0,0))→okf fa vs w A →
   Calls Tryz.prog f (.pointer (some ⟨m,0,none⟩) :: vs).toArray w fun e w'=>e=.returned (.pointer (some ⟨m,0,none⟩))∧PutR m q w w')
  (ha:arsK L args=some fa:=by kernel_rfl) (hr:res.lk L=some (gr q):=by kernel_rfl):GC Tryz.prog L true :=
 ⟨{ f,args:=.c (.own b 0) :: args,res:=.r (.c res),needs:=[(b,⟨zRA,133,none⟩)],give:=some b },ent,fun σ w A us hR hA hu hn n hσ hAn=>by
  match us,hu with
  | u :: us,hu =>
   obtain⟨⟨n0,h0,rfl⟩,hu⟩:=hu
   have e0:n0=n:=by
    have:some n0=some n:=h0.symm.trans hσ
    cases this; rfl
   subst e0
   obtain⟨⟨n1,vs,h1,_,h2,h3⟩,_⟩:=hn
   have e1:n1=n0:=by
    have:some n1=some n0:=h1.symm.trans hσ
    cases this; rfl
   subst e1
   have e2:vs=[.bool false,.slice none 0 0,.bool false,.slice none 0 0]:=by
    match vs,h3 with
    | [a,b,c,d],⟨k1,k2,k3,k4,_⟩=>cases k1; cases k2; cases k3; cases k4; rfl
   subst e2
   refine(h n1 _ w A us (hR rfl) h2 rfl noW_zRat ((arsK_ok ha).1 hu)).mono ?_
   rintro e w' ⟨rfl,hp⟩
   exact⟨_,rfl,(AC.lk_ok hr).2 (hp.ratP (hR rfl)),hp.1⟩⟩
section
variable{L:List GF}
def gvSub(x y:Rat){k l:Nat}(hx:RL x k)(hy:RL y l)(hb:k+l<137438953472)(b:Nat)(ax ay:AR)(res:AC)(ha:arsK L [ax,ay]=some [.c (gr x),.c (gr y)]:=by kernel_rfl)(hr:res.lk L=some (gr (x - y)):=by kernel_rfl):GC Tryz.prog L true :=
 giveR eo167 b [ax,ay] res (x - y) [.c (gr x),.c (gr y)] (fun m C w A vs hA hm h4 hC hu=>by
  match vs,hu with
  | [v,v'],hu=>exact RSub_any m C x y v v' A w hm h4 hC hu.1 hu.2.1 k l hx hy hb) ha hr
end
def ng(z:QC):QC:=⟨-z.re,-z.im⟩
end Go.Proofs.YthklnbaddobieaaGreat
namespace Tr
open Go Go.RowKit
structure Fn where
 f:FuncId
 fn:Func
 fuel:Nat
def visB(bl:Nat→Option BK)(len:Nat):List BK:=(List.range len).map fun b=>visK (bl b)
def idx(b:Nat):List Nat→Option Nat
 | []=>none
 | c :: l=>if c == b then some 0 else(idx b l).map (·+1)
def renOf(bl:Nat→Option BK)(len new:Nat)(ids:List Nat)(b:Nat):Option Nat :=
 if b<len then(match bl b with|some (.live _)|some (.lent _)=>some b|_=>none) else(idx b ids).map (new+·)
def natsR(ρ:Nat→Option Nat):List Nat→Option (List Nat)
 | []=>some []
 | b :: l=>match ρ b,natsR ρ l with|some c,some m=>some (c :: m)|_,_=>none
def AC.ren(ρ:Nat→Option Nat):AC→Option AC
 | .sym i=>some (.sym i)
 | .lit l=>some (.lit l)
 | .own b o=>match ρ b with|some c=>some (.own c o)|none=>none
 | .sl b o n k=>match ρ b with|some c=>some (.sl c o n k)|none=>none
 | .sg b o n=>match ρ b with|some c=>some (.sg c o n)|none=>none
 | .fn f a b=>match natsR ρ a,natsR ρ b with|some c,some d=>some (.fn f c d)|_,_=>none
def acsR(ρ:Nat→Option Nat):List AC→Option (List AC)
 | []=>some []
 | x :: l=>match x.ren ρ,acsR ρ l with|some y,some m=>some (y :: m)|_,_=>none
def AR.ren(ρ:Nat→Option Nat):AR→Option AR
 | .c x=>match x.ren ρ with|some y=>some (.c y)|none=>none
 | .row l=>match acsR ρ l with|some m=>some (.row m)|none=>none
def arsR(ρ:Nat→Option Nat):List AR→Option (List AR)
 | []=>some []
 | x :: l=>match x.ren ρ,arsR ρ l with|some y,some m=>some (y :: m)|_,_=>none
def AV.ren(ρ:Nat→Option Nat):AV→Option AV
 | .r x=>match x.ren ρ with|some y=>some (.r y)|none=>none
 | .tup l=>match arsR ρ l with|some m=>some (.tup m)|none=>none
 | .undf=>some .undf
 | .junk=>some .junk
def AB.ren(ρ:Nat→Option Nat)(ab:AB):Option AB:=match acsR ρ ab.cells with|some cs=>some { ab with cells:=cs }|none=>none
def wvis(ρ:Nat→Option Nat)(bl:Nat→Option BK)(bs:List BK):List Nat→Option (List (Nat×BK))
 | []=>some []
 | b :: l=>match bl b with
  | some (.live ab)=>(match bs[b]?,wvis ρ bl bs l with
   | some (.live ab1),some r=>(match ab1.ren ρ with|some ab2=>some (if ab2.beq ab then r else(b,.live ab2) :: r)|none=>none)
   | some .dead,some r=>some ((b,.dead) :: r)
   | _,_=>none)
  | _=>wvis ρ bl bs l
def births(ρ:Nat→Option Nat)(bs:List BK):List Nat→Nat→Option (List (Nat×BK))
 | [],_=>some []
 | b :: l,new=>match bs[b]?,births ρ bs l (new+1) with
  | some (.live ab1),some r=>(match ab1.ren ρ with|some ab2=>some ((new,.live ab2) :: r)|none=>none)
  | _,_=>none
def nodupB:List Nat→Bool
 | []=>true
 | a :: l=>!l.contains a && nodupB l
def freeB(bl:Nat→Option BK)(new:Nat):Nat→Bool
 | 0=>true
 | n+1=>(match bl (new+n) with|some .unborn=>true|_=>false) && freeB bl new n
def findF(f:FuncId):List Fn→Option Fn
 | []=>none
 | q :: l=>if q.f == f then some q else findF f l
def inlEnd(cx:Cx)(q:Fn)(args:List AR)(bl:Nat→Option BK)(len new:Nat)(s1:AS):Option (AV×List (Nat×BK)×List Nat) :=
 match resA cx q.fn s1 with
 | none=>none
 | some r =>
  let seen:=reachN (fun b=>decide (b<len)) (fun b=>visK (bl b)) 12 [] (args.flatMap AR.ments)
  let ids:=reachN (fun b=>decide (len≤b)) (fun b=>s1.blocks.getD b .dead) 12 [] (r.ments++seen.flatMap fun b=>(match bl b with|some (.live _)=>(s1.blocks.getD b .dead).ments|_=>[]))
  let ρ:=renOf bl len new ids
  match r.ren ρ,wvis ρ bl s1.blocks (List.range len),births ρ s1.blocks ids new with
  | some r',some wv,some bs =>
   if ids.all (fun b=>decide (len≤b)) && nodupB ids && freeB bl new ids.length && nodupB ((wv++bs).map (·.1)) then some (r',wv++bs,seen) else none
  | _,_,_=>none
def inlOf(cx:Cx)(fs:List Fn):Inl:=fun f args bl len new =>
 match findF f fs with
 | none=>none
 | some q=>match q.fn.body with
  | none=>none
  | some c=>match evC cx q.fuel c { tmps:=args.map AV.r++List.replicate (q.fn.ntmps - args.length) .undf,blocks:=visB bl len } with
   | some (.normal,s1)|some (.ret,s1)=>inlEnd cx q args bl len new s1
   | _=>none
section
variable{T:Nat→Fact}{cx cx':Cx}{A0 M:Nat→Prop}{w0:World}{σs σ σ1 σ2:Sg}{s:AS}{a:Act}{w w':World}{P:Program}{bl:Nat→Option BK}{ρ:Nat→Option Nat}{A:Nat→Prop}
def Rn(ρ:Nat→Option Nat)(σ1 σ2:Sg):Prop:=∀ b c n,ρ b=some c→σ1 b=some n→σ2 c=some n∧σ2.room c=σ1.room b
theorem ptrs_ren(h:Rn ρ σ1 σ2):∀{l m:List Nat} {vs:List Value},natsR ρ l=some m→ptrs σ1 l vs→ptrs σ2 m vs
 | [],m,vs,hr,hx=>by cases hr; cases vs<;>exact hx
 | b :: l,m,vs,hr,hx=>by
  unfold natsR at hr
  split at hr
  ·rename_i c r h1 h2
   cases hr
   cases vs with
   | nil=>exact hx.elim
   | cons v vs =>
    obtain⟨⟨n,e1,e2⟩,h3⟩:=hx
    exact⟨⟨n,(h _ _ _ h1 e1).1,e2⟩,ptrs_ren h h2 h3⟩
  ·cases hr
theorem AC.ren_ok(h:Rn ρ σ1 σ2){x y:AC}(hr:x.ren ρ=some y){v:Value}(hx:x.ok T σ1 v w A):y.ok T σ2 v w A:=by
 cases x with
 | sym i=>cases hr; exact hx
 | lit l=>cases hr; exact hx
 | own b o =>
  unfold AC.ren at hr; simp only at hr
  split at hr
  ·rename_i c h1; cases hr
   obtain⟨n,e1,e2⟩:=hx
   exact⟨n,(h _ _ _ h1 e1).1,e2⟩
  ·cases hr
 | sl b o k c =>
  unfold AC.ren at hr; simp only at hr
  split at hr
  ·rename_i c h1; cases hr
   obtain⟨n,e1,e2⟩:=hx
   exact⟨n,(h _ _ _ h1 e1).1,e2⟩
  ·cases hr
 | sg b o k =>
  unfold AC.ren at hr; simp only at hr
  split at hr
  ·rename_i c h1; cases hr
   obtain⟨n,e1,e2,e3⟩:=hx
   obtain⟨g1,g2⟩:=h _ _ _ h1 e1
   exact⟨n,g1,by rw[g2]; exact e2,by rw[g2]; exact e3⟩
  ·cases hr
 | fn f p q =>
  unfold AC.ren at hr; simp only at hr
  split at hr
  ·rename_i c d h1 h2; cases hr
   obtain⟨us,vs,e1,e2,e3⟩:=hx
   exact⟨us,vs,e1,ptrs_ren h h1 e2,ptrs_ren h h2 e3⟩
  ·cases hr
theorem acsR_ok(h:Rn ρ σ1 σ2):∀{l m:List AC} {vs:List Value},acsR ρ l=some m→oks T σ1 l vs w A→oks T σ2 m vs w A
 | [],m,vs,hr,hx=>by cases hr; cases vs<;>exact hx
 | x :: l,m,vs,hr,hx=>by
  unfold acsR at hr
  split at hr
  ·rename_i c r h1 h2
   cases hr
   cases vs with
   | nil=>exact hx.elim
   | cons v vs=>exact⟨AC.ren_ok h h1 hx.1,acsR_ok h h2 hx.2⟩
  ·cases hr
theorem AR.ren_ok(h:Rn ρ σ1 σ2){x y:AR}(hr:x.ren ρ=some y){v:Value}(hx:x.ok T σ1 v w A):y.ok T σ2 v w A:=by
 cases x with
 | c x =>
  unfold AR.ren at hr; simp only at hr
  split at hr
  ·rename_i c h1; cases hr; exact AC.ren_ok (x:=x) h h1 hx
  ·cases hr
 | row l =>
  unfold AR.ren at hr; simp only at hr
  split at hr
  ·rename_i c h1; cases hr
   obtain⟨vs,e,h2⟩:=hx
   exact⟨vs,e,acsR_ok h h1 h2⟩
  ·cases hr
theorem arsR_ok(h:Rn ρ σ1 σ2):∀{l m:List AR} {vs:List Value},arsR ρ l=some m→okr T σ1 l vs w A→okr T σ2 m vs w A
 | [],m,vs,hr,hx=>by cases hr; cases vs<;>exact hx
 | x :: l,m,vs,hr,hx=>by
  unfold arsR at hr
  split at hr
  ·rename_i c r h1 h2
   cases hr
   cases vs with
   | nil=>exact hx.elim
   | cons v vs=>exact⟨AR.ren_ok h h1 hx.1,arsR_ok h h2 hx.2⟩
  ·cases hr
theorem AV.ren_ok(h:Rn ρ σ1 σ2){x y:AV}(hr:x.ren ρ=some y){v:Value}(hx:x.ok T σ1 v w A):y.ok T σ2 v w A:=by
 cases x with
 | r x =>
  unfold AV.ren at hr; simp only at hr
  split at hr
  ·rename_i c h1; cases hr; exact AR.ren_ok (x:=x) h h1 hx
  ·cases hr
 | tup l =>
  unfold AV.ren at hr; simp only at hr
  split at hr
  ·rename_i c h1; cases hr
   obtain⟨vs,e,h2⟩:=hx
   exact⟨vs,e,arsR_ok h h1 h2⟩
  ·cases hr
 | undf=>cases hr; exact hx
 | junk=>cases hr; trivial
theorem AC.ren_noint{x y:AC}(hr:x.ren ρ=some y)(i:Nat→Bool):y.noint i=x.noint i:=by
 cases x with
 | sym j=>cases hr; rfl
 | lit l=>cases hr; rfl
 | own b o=>unfold AC.ren at hr; simp only at hr; split at hr<;>cases hr; rfl
 | sl b o k c=>unfold AC.ren at hr; simp only at hr; split at hr<;>cases hr; rfl
 | sg b o k=>unfold AC.ren at hr; simp only at hr; split at hr<;>cases hr; rfl
 | fn f p q=>unfold AC.ren at hr; simp only at hr; split at hr<;>cases hr; rfl
theorem acsR_noint(i:Nat→Bool):∀{l m:List AC},acsR ρ l=some m→m.all (AC.noint i)=l.all (AC.noint i)
 | [],m,hr=>by cases hr; rfl
 | x :: l,m,hr=>by
  unfold acsR at hr
  split at hr
  ·rename_i c r h1 h2
   cases hr
   rw[List.all_cons,List.all_cons,AC.ren_noint h1,acsR_noint i h2]
  ·cases hr
theorem AB.ren_spec{ab ab2:AB}(h:ab.ren ρ=some ab2):acsR ρ ab.cells=some ab2.cells∧ab2.ty=ab.ty∧ab2.more=ab.more:=by
 unfold AB.ren at h
 split at h
 ·rename_i cs h1; cases h; exact⟨h1,rfl,rfl⟩
 ·cases h
theorem live_ren(ht:TOk T cx.ints)(h:Rn ρ σ1 σ2){b c n:Nat}{ab ab2:AB}(hr:ab.ren ρ=some ab2)(hρ:ρ b=some c)(hn:σ1 b=some n){A':Nat→Prop}(hk:Kp w w A A')(hl:LiveOk T cx σ1 A w b ab n):LiveOk T cx σ2 A' w c ab2 n:=by
 obtain⟨e1,e2,e3⟩:=AB.ren_spec hr
 obtain⟨vs,rest,g1,g2,g3,g4,g5,g6⟩:=hl
 refine⟨vs,rest,by rw[e2]; exact g1,(acsR_ok h e1 g2).keep ht (Sub.refl _) hk,?_,g4,g5,?_⟩
 ·unfold okCells at g3 ⊢
  rw[acsR_noint _ e1]; exact g3
 ·rw[e3,(h _ _ _ hρ hn).2]; exact g6
theorem visB_get{len b:Nat}{k:BK}(h:(visB bl len)[b]?=some k):b<len∧k=visK (bl b):=by
 unfold visB at h
 rw[List.getElem?_map] at h
 obtain⟨x,h1,h2⟩:=Option.map_eq_some_iff.1 h
 have hlt:b<len:=by have:=(List.getElem?_eq_some_iff.1 h1).1; simpa using this
 rw[List.getElem?_range hlt] at h1
 cases h1; exact⟨hlt,h2.symm⟩
theorem visK_live{k:Option BK}{ab:AB}(h:BK.live ab=visK k):k=some (.live ab):=by
 unfold visK at h; split at h<;>cases h; rfl
theorem visK_lent{k:Option BK}{ab:AB}(h:BK.lent ab=visK k):k=some (.lent ab):=by
 unfold visK at h; split at h<;>cases h; rfl
theorem visK_unborn{k:Option BK}(h:BK.unborn=visK k):False:=by
 unfold visK at h; split at h<;>cases h
theorem visB_set{len b:Nat}(h:b<len):(visB bl len)[b]?=some (visK (bl b)):=by
 unfold visB
 rw[List.getElem?_map,List.getElem?_range h]; rfl
theorem setL_mem:∀{ws:List (Nat×BK)} {l:List BK} {b:Nat} {k:BK},nodupB (ws.map (·.1))=true→(b,k)∈ws→b<l.length→(setL l ws)[b]?=some k
 | [],l,b,k,_,h,_=>by cases h
 | (c,j) :: ws,l,b,k,hn,h,hl=>by
  simp only[List.map_cons,nodupB,Bool.and_eq_true,Bool.not_eq_true'] at hn
  rcases List.mem_cons.1 h with h|h
  ·obtain⟨rfl,rfl⟩:=Prod.mk.inj h
   have hno:∀ k',(b,k') ∉ ws:=fun k' hk=>by
    have:b∈ws.map (·.1):=List.mem_map.2 ⟨_,hk,rfl⟩
    have h2:=hn.1
    simp only[List.contains_eq_mem,decide_eq_false_iff_not] at h2
    exact h2 this
   rw[setL,setL_get ws _ b hno]
   simp[hl]
  ·exact setL_mem (l:=l.set c j) hn.2 h (by simpa using hl)
theorem idx_spec{b:Nat}:∀{l:List Nat} {k:Nat},idx b l=some k→l[k]?=some b
 | [],k,h=>by cases h
 | c :: l,k,h=>by
  unfold idx at h
  split at h
  ·rename_i e; cases h; simpa using e
  ·obtain⟨j,h1,rfl⟩:=Option.map_eq_some_iff.1 h
   simpa using idx_spec h1
theorem idx_get{b:Nat}:∀{l:List Nat} {k:Nat},nodupB l=true→l[k]?=some b→idx b l=some k
 | [],k,_,h=>by simp at h
 | c :: l,k,hn,h=>by
  simp only[nodupB,Bool.and_eq_true,Bool.not_eq_true',List.contains_eq_mem,decide_eq_false_iff_not] at hn
  unfold idx
  cases k with
  | zero=>simp at h; subst h; simp
  | succ k =>
   simp at h
   have:¬(c == b)=true:=fun e=>by
    have e:c=b:=by simpa using e
    subst e
    exact hn.1 (List.mem_of_getElem? h)
   rw[if_neg this,idx_get hn.2 h]; rfl
theorem freeB_spec{new:Nat}:∀{n:Nat},freeB bl new n=true→∀ k,k<n→bl (new+k)=some .unborn
 | 0,_,k,h=>by omega
 | n+1,h,k,hk=>by
  simp only[freeB,Bool.and_eq_true] at h
  by_cases e:k=n
  ·subst e
   have:=h.1
   split at this
   ·assumption
   ·cases this
  ·exact freeB_spec h.2 k (by omega)
theorem births_spec{bs:List BK}:∀{l:List Nat} {new:Nat} {r:List (Nat×BK)},births ρ bs l new=some r →
  (∀(k b:Nat),l[k]?=some b→∃ ab1 ab2,bs[b]?=some (.live ab1)∧ab1.ren ρ=some ab2∧(new+k,BK.live ab2)∈r)∧∀ x kk,(x,kk)∈r→∃ k,k<l.length∧x=new+k∧∃ ab,kk=BK.live ab
 | [],new,r,h=>by cases h; exact⟨fun k b h=>by simp at h,fun x kk h=>by cases h⟩
 | b :: l,new,r,h=>by
  unfold births at h
  split at h
  ·rename_i ab1 r1 h1 h2
   split at h
   ·rename_i ab2 h3
    cases h
    obtain⟨g1,g2⟩:=births_spec h2
    refine⟨fun k c hk=>?_,fun x kk hx=>?_⟩
    ·cases k with
     | zero=>simp at hk; subst hk; exact⟨ab1,ab2,h1,h3,by simp⟩
     | succ k =>
      simp at hk
      obtain⟨p,q,e1,e2,e3⟩:=g1 k c hk
      exact⟨p,q,e1,e2,List.mem_cons_of_mem _ (by rw[show new+(k+1)=new+1+k by omega]; exact e3)⟩
    ·rcases List.mem_cons.1 hx with hx|hx
     ·cases hx; exact⟨0,by simp,rfl,_,rfl⟩
     ·obtain⟨k,e1,e2,e3⟩:=g2 x kk hx
      exact⟨k+1,by simp; omega,by omega,e3⟩
   ·cases h
  ·cases h
theorem wvis_spec{bs:List BK}:∀{l:List Nat} {r:List (Nat×BK)},l.Nodup→wvis ρ bl bs l=some r →
  (∀ b,b∈l→∀ ab,bl b=some (.live ab)→(bs[b]?=some .dead∧(b,BK.dead)∈r)∨∃ ab1 ab2,bs[b]?=some (.live ab1)∧ab1.ren ρ=some ab2∧((ab2=ab∧∀ k,(b,k) ∉ r)∨(b,BK.live ab2)∈r)) ∧
  ∀ x kk,(x,kk)∈r→x∈l∧(∃ ab,bl x=some (.live ab))∧(kk=.dead∨∃ ab,kk=BK.live ab)
 | [],r,_,h=>by cases h; exact⟨fun b h=>(List.not_mem_nil h).elim,fun x kk h=>(List.not_mem_nil h).elim⟩
 | b :: l,r,hnd,h=>by
  rw[List.nodup_cons] at hnd
  unfold wvis at h
  split at h
  ·rename_i ab hb
   split at h
   ·rename_i ab1 r1 h1 h2
    obtain⟨g1,g2⟩:=wvis_spec hnd.2 h2
    split at h
    ·rename_i ab2 h3
     cases h
     have hno:∀ k,(b,k) ∉ r1:=fun k hk=>hnd.1 (g2 _ _ hk).1
     split
     ·rename_i he
      have he:=AB.eq_of he
      refine⟨fun c hc ab' hc'=>?_,fun x kk hx=>?_⟩
      ·rcases List.mem_cons.1 hc with e|e
       ·subst e
        rw[hb] at hc'; cases hc'
        exact .inr ⟨ab1,ab2,h1,h3,.inl ⟨he,hno⟩⟩
       ·exact g1 c e ab' hc'
      ·obtain⟨e1,e2,e3⟩:=g2 x kk hx
       exact⟨List.mem_cons_of_mem _ e1,e2,e3⟩
     ·refine⟨fun c hc ab' hc'=>?_,fun x kk hx=>?_⟩
      ·rcases List.mem_cons.1 hc with e|e
       ·subst e
        exact .inr ⟨ab1,ab2,h1,h3,.inr (by simp)⟩
       ·have hne:c≠b:=fun e2=>by subst e2; exact hnd.1 e
        rcases g1 c e ab' hc' with⟨p,q⟩|⟨p,q,e1,e2,e3⟩
        ·exact .inl ⟨p,List.mem_cons_of_mem _ q⟩
        ·refine .inr ⟨p,q,e1,e2,e3.imp (fun⟨i,j⟩=>⟨i,fun k hk=>?_⟩) (List.mem_cons_of_mem _)⟩
         rcases List.mem_cons.1 hk with e4|e4
         ·cases e4; exact hne rfl
         ·exact j k e4
      ·rcases List.mem_cons.1 hx with e|e
       ·cases e; exact⟨by simp,⟨ab,hb⟩,.inr ⟨_,rfl⟩⟩
       ·obtain⟨e1,e2,e3⟩:=g2 x kk e
        exact⟨List.mem_cons_of_mem _ e1,e2,e3⟩
    ·cases h
   ·rename_i r1 h1 h2
    cases h
    obtain⟨g1,g2⟩:=wvis_spec hnd.2 h2
    refine⟨fun c hc ab' hc'=>?_,fun x kk hx=>?_⟩
    ·rcases List.mem_cons.1 hc with e|e
     ·subst e; exact .inl ⟨h1,by simp⟩
     ·have hne:c≠b:=fun e2=>by subst e2; exact hnd.1 e
      rcases g1 c e ab' hc' with⟨p,q⟩|⟨p,q,e1,e2,e3⟩
      ·exact .inl ⟨p,List.mem_cons_of_mem _ q⟩
      ·refine .inr ⟨p,q,e1,e2,e3.imp (fun⟨i,j⟩=>⟨i,fun k hk=>?_⟩) (List.mem_cons_of_mem _)⟩
       rcases List.mem_cons.1 hk with e4|e4
       ·cases e4; exact hne rfl
       ·exact j k e4
    ·rcases List.mem_cons.1 hx with e|e
     ·cases e; exact⟨by simp,⟨ab,hb⟩,.inl rfl⟩
     ·obtain⟨e1,e2,e3⟩:=g2 x kk e
      exact⟨List.mem_cons_of_mem _ e1,e2,e3⟩
   ·cases h
  ·rename_i hb
   obtain⟨g1,g2⟩:=wvis_spec hnd.2 h
   refine⟨fun c hc ab' hc'=>?_,fun x kk hx=>?_⟩
   ·rcases List.mem_cons.1 hc with e|e
    ·subst e; exact absurd hc' (hb ab')
    ·exact g1 c e ab' hc'
   ·obtain⟨e1,e2,e3⟩:=g2 x kk hx
    exact⟨List.mem_cons_of_mem _ e1,e2,e3⟩
end
end Tr
