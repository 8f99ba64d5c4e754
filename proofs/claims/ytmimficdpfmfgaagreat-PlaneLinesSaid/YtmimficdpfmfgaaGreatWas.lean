/- Laws. -/
import Derived.Test.YtmimficdpfmfgaaGreatWaq
import Derived.Test.YtmimficdpfmfgaaGreatWar
set_option linter.all false
set_option maxHeartbeats 4000000
set_option maxRecDepth 100000
open Go.Lib (hid)
namespace Go.Proofs.YtmimficdpfmfgaaGreat
open Go.RowKit Tr Proofs.Tryz
def Vcq(x y:Int)(hx:WL x.natAbs 1073741824)(hy:WL y.natAbs 1073741824):PureC prog 155 [Qdu x,Qdu y] (.int .i64 (Qgs x y)):=by
  have sx:=Qyp x;have sy:=Qyp y;have hu:=Kqk x.natAbs y.natAbs (hx.mono (by decide));rcases Int.lt_trichotomy x 0 with h1|h1|h1<;>rcases Int.lt_trichotomy y 0 with h2|h2|h2
  · rw[axo h1] at sx;rw[axo h2] at sy;rcases(by omega:x.natAbs<y.natAbs\/x.natAbs=y.natAbs\/y.natAbs<x.natAbs) with h3|h3|h3
    · rw[show Qdw x.natAbs y.natAbs=-1 by unfold Qdw;rw[if_pos (by omega)]] at hu;rw[show Qgs x y=1 by unfold Qgs;rw[if_neg (by omega),if_pos (by omega)]];exact Qaw (hp := true) (L := cz x ++ cz y ++ [gw (Qac x.natAbs),gw (Qac y.natAbs)]) Qae Qai
          [gp 193 [.row [.sym 0,.sym 1]] (.r (.c (.lit (.int .i64 (-1))))) eo193 sx rfl rfl,gp 193 [.row [.sym 2,.sym 3]] (.r (.c (.lit (.int .i64 (-1))))) eo193 sy rfl rfl,gm1 236 (.c (.sym 1)) (.r (.c (.sym 4))) eo236 (Qdn x.natAbs (hx.mono (by decide))),gm1 236 (.c (.sym 3)) (.r (.c (.sym 5))) eo236 (Qdn y.natAbs (hy.mono (by decide))),Qum 235 (.c (.sym 4)) (.c (.sym 5)) (.r (.c (.lit (.int .i64 (-1))))) eo235 hu] [] []
          func155 100 [.row [.sym 0,.sym 1],.row [.sym 2,.sym 3]] (.r (.c (.lit (.int .i64 1)))) kR rfl rfl
    · rw[show Qdw x.natAbs y.natAbs=0 by unfold Qdw;rw[if_neg (by omega),if_neg (by omega)]] at hu;rw[show Qgs x y=0 by unfold Qgs;rw[if_neg (by omega),if_neg (by omega)]];exact Qaw (hp := true) (L := cz x ++ cz y ++ [gw (Qac x.natAbs),gw (Qac y.natAbs)]) Qae Qai
          [gp 193 [.row [.sym 0,.sym 1]] (.r (.c (.lit (.int .i64 (-1))))) eo193 sx rfl rfl,gp 193 [.row [.sym 2,.sym 3]] (.r (.c (.lit (.int .i64 (-1))))) eo193 sy rfl rfl,gm1 236 (.c (.sym 1)) (.r (.c (.sym 4))) eo236 (Qdn x.natAbs (hx.mono (by decide))),gm1 236 (.c (.sym 3)) (.r (.c (.sym 5))) eo236 (Qdn y.natAbs (hy.mono (by decide))),Qum 235 (.c (.sym 4)) (.c (.sym 5)) (.r (.c (.lit (.int .i64 0)))) eo235 hu] [] []
          func155 100 [.row [.sym 0,.sym 1],.row [.sym 2,.sym 3]] (.r (.c (.lit (.int .i64 0)))) kR rfl rfl
    · rw[show Qdw x.natAbs y.natAbs=1 by unfold Qdw;rw[if_neg (by omega),if_pos (by omega)]] at hu;rw[show Qgs x y=-1 by unfold Qgs;rw[if_pos (by omega)]];exact Qaw (hp := true) (L := cz x ++ cz y ++ [gw (Qac x.natAbs),gw (Qac y.natAbs)]) Qae Qai
          [gp 193 [.row [.sym 0,.sym 1]] (.r (.c (.lit (.int .i64 (-1))))) eo193 sx rfl rfl,gp 193 [.row [.sym 2,.sym 3]] (.r (.c (.lit (.int .i64 (-1))))) eo193 sy rfl rfl,gm1 236 (.c (.sym 1)) (.r (.c (.sym 4))) eo236 (Qdn x.natAbs (hx.mono (by decide))),gm1 236 (.c (.sym 3)) (.r (.c (.sym 5))) eo236 (Qdn y.natAbs (hy.mono (by decide))),Qum 235 (.c (.sym 4)) (.c (.sym 5)) (.r (.c (.lit (.int .i64 1)))) eo235 hu] [] []
          func155 100 [.row [.sym 0,.sym 1],.row [.sym 2,.sym 3]] (.r (.c (.lit (.int .i64 (-1))))) kR rfl rfl
  · rw[axo h1] at sx;rw[(by rw[h2];rfl:y.sign=0)] at sy;rw[show Qgs x y=-1 by unfold Qgs;rw[if_pos (by omega)]];exact Qaw (hp := true) (L := cz x ++ cz y ++ [gw (Qac x.natAbs),gw (Qac y.natAbs)]) Qae Qai
          [gp 193 [.row [.sym 0,.sym 1]] (.r (.c (.lit (.int .i64 (-1))))) eo193 sx rfl rfl,gp 193 [.row [.sym 2,.sym 3]] (.r (.c (.lit (.int .i64 0)))) eo193 sy rfl rfl] [] []
          func155 100 [.row [.sym 0,.sym 1],.row [.sym 2,.sym 3]] (.r (.c (.lit (.int .i64 (-1))))) kR rfl rfl
  · rw[axo h1] at sx;rw[axn h2] at sy;rw[show Qgs x y=-1 by unfold Qgs;rw[if_pos (by omega)]];exact Qaw (hp := true) (L := cz x ++ cz y ++ [gw (Qac x.natAbs),gw (Qac y.natAbs)]) Qae Qai
          [gp 193 [.row [.sym 0,.sym 1]] (.r (.c (.lit (.int .i64 (-1))))) eo193 sx rfl rfl,gp 193 [.row [.sym 2,.sym 3]] (.r (.c (.lit (.int .i64 1)))) eo193 sy rfl rfl] [] []
          func155 100 [.row [.sym 0,.sym 1],.row [.sym 2,.sym 3]] (.r (.c (.lit (.int .i64 (-1))))) kR rfl rfl
  · rw[(by rw[h1];rfl:x.sign=0)] at sx;rw[axo h2] at sy;rw[show Qgs x y=1 by unfold Qgs;rw[if_neg (by omega),if_pos (by omega)]];exact Qaw (hp := true) (L := cz x ++ cz y ++ [gw (Qac x.natAbs),gw (Qac y.natAbs)]) Qae Qai
          [gp 193 [.row [.sym 0,.sym 1]] (.r (.c (.lit (.int .i64 0)))) eo193 sx rfl rfl,gp 193 [.row [.sym 2,.sym 3]] (.r (.c (.lit (.int .i64 (-1))))) eo193 sy rfl rfl] [] []
          func155 100 [.row [.sym 0,.sym 1],.row [.sym 2,.sym 3]] (.r (.c (.lit (.int .i64 1)))) kR rfl rfl
  · rw[(by rw[h1];rfl:x.sign=0)] at sx;rw[(by rw[h2];rfl:y.sign=0)] at sy;rw[show Qdw x.natAbs y.natAbs=0 by unfold Qdw;rw[if_neg (by omega),if_neg (by omega)]] at hu;rw[show Qgs x y=0 by unfold Qgs;rw[if_neg (by omega),if_neg (by omega)]];exact Qaw (hp := true) (L := cz x ++ cz y ++ [gw (Qac x.natAbs),gw (Qac y.natAbs)]) Qae Qai
          [gp 193 [.row [.sym 0,.sym 1]] (.r (.c (.lit (.int .i64 0)))) eo193 sx rfl rfl,gp 193 [.row [.sym 2,.sym 3]] (.r (.c (.lit (.int .i64 0)))) eo193 sy rfl rfl,gm1 236 (.c (.sym 1)) (.r (.c (.sym 4))) eo236 (Qdn x.natAbs (hx.mono (by decide))),gm1 236 (.c (.sym 3)) (.r (.c (.sym 5))) eo236 (Qdn y.natAbs (hy.mono (by decide))),Qum 235 (.c (.sym 4)) (.c (.sym 5)) (.r (.c (.lit (.int .i64 0)))) eo235 hu] [] []
          func155 100 [.row [.sym 0,.sym 1],.row [.sym 2,.sym 3]] (.r (.c (.lit (.int .i64 0)))) kR rfl rfl
  · rw[(by rw[h1];rfl:x.sign=0)] at sx;rw[axn h2] at sy;rw[show Qgs x y=-1 by unfold Qgs;rw[if_pos (by omega)]];exact Qaw (hp := true) (L := cz x ++ cz y ++ [gw (Qac x.natAbs),gw (Qac y.natAbs)]) Qae Qai
          [gp 193 [.row [.sym 0,.sym 1]] (.r (.c (.lit (.int .i64 0)))) eo193 sx rfl rfl,gp 193 [.row [.sym 2,.sym 3]] (.r (.c (.lit (.int .i64 1)))) eo193 sy rfl rfl] [] []
          func155 100 [.row [.sym 0,.sym 1],.row [.sym 2,.sym 3]] (.r (.c (.lit (.int .i64 (-1))))) kR rfl rfl
  · rw[axn h1] at sx;rw[axo h2] at sy;rw[show Qgs x y=1 by unfold Qgs;rw[if_neg (by omega),if_pos (by omega)]];exact Qaw (hp := true) (L := cz x ++ cz y ++ [gw (Qac x.natAbs),gw (Qac y.natAbs)]) Qae Qai
          [gp 193 [.row [.sym 0,.sym 1]] (.r (.c (.lit (.int .i64 1)))) eo193 sx rfl rfl,gp 193 [.row [.sym 2,.sym 3]] (.r (.c (.lit (.int .i64 (-1))))) eo193 sy rfl rfl] [] []
          func155 100 [.row [.sym 0,.sym 1],.row [.sym 2,.sym 3]] (.r (.c (.lit (.int .i64 1)))) kR rfl rfl
  · rw[axn h1] at sx;rw[(by rw[h2];rfl:y.sign=0)] at sy;rw[show Qgs x y=1 by unfold Qgs;rw[if_neg (by omega),if_pos (by omega)]];exact Qaw (hp := true) (L := cz x ++ cz y ++ [gw (Qac x.natAbs),gw (Qac y.natAbs)]) Qae Qai
          [gp 193 [.row [.sym 0,.sym 1]] (.r (.c (.lit (.int .i64 1)))) eo193 sx rfl rfl,gp 193 [.row [.sym 2,.sym 3]] (.r (.c (.lit (.int .i64 0)))) eo193 sy rfl rfl] [] []
          func155 100 [.row [.sym 0,.sym 1],.row [.sym 2,.sym 3]] (.r (.c (.lit (.int .i64 1)))) kR rfl rfl
  · rw[axn h1] at sx;rw[axn h2] at sy;rcases(by omega:x.natAbs<y.natAbs\/x.natAbs=y.natAbs\/y.natAbs<x.natAbs) with h3|h3|h3
    · rw[show Qdw x.natAbs y.natAbs=-1 by unfold Qdw;rw[if_pos (by omega)]] at hu;rw[show Qgs x y=-1 by unfold Qgs;rw[if_pos (by omega)]];exact Qaw (hp := true) (L := cz x ++ cz y ++ [gw (Qac x.natAbs),gw (Qac y.natAbs)]) Qae Qai
          [gp 193 [.row [.sym 0,.sym 1]] (.r (.c (.lit (.int .i64 1)))) eo193 sx rfl rfl,gp 193 [.row [.sym 2,.sym 3]] (.r (.c (.lit (.int .i64 1)))) eo193 sy rfl rfl,gm1 236 (.c (.sym 1)) (.r (.c (.sym 4))) eo236 (Qdn x.natAbs (hx.mono (by decide))),gm1 236 (.c (.sym 3)) (.r (.c (.sym 5))) eo236 (Qdn y.natAbs (hy.mono (by decide))),Qum 235 (.c (.sym 4)) (.c (.sym 5)) (.r (.c (.lit (.int .i64 (-1))))) eo235 hu] [] []
          func155 100 [.row [.sym 0,.sym 1],.row [.sym 2,.sym 3]] (.r (.c (.lit (.int .i64 (-1))))) kR rfl rfl
    · rw[show Qdw x.natAbs y.natAbs=0 by unfold Qdw;rw[if_neg (by omega),if_neg (by omega)]] at hu;rw[show Qgs x y=0 by unfold Qgs;rw[if_neg (by omega),if_neg (by omega)]];exact Qaw (hp := true) (L := cz x ++ cz y ++ [gw (Qac x.natAbs),gw (Qac y.natAbs)]) Qae Qai
          [gp 193 [.row [.sym 0,.sym 1]] (.r (.c (.lit (.int .i64 1)))) eo193 sx rfl rfl,gp 193 [.row [.sym 2,.sym 3]] (.r (.c (.lit (.int .i64 1)))) eo193 sy rfl rfl,gm1 236 (.c (.sym 1)) (.r (.c (.sym 4))) eo236 (Qdn x.natAbs (hx.mono (by decide))),gm1 236 (.c (.sym 3)) (.r (.c (.sym 5))) eo236 (Qdn y.natAbs (hy.mono (by decide))),Qum 235 (.c (.sym 4)) (.c (.sym 5)) (.r (.c (.lit (.int .i64 0)))) eo235 hu] [] []
          func155 100 [.row [.sym 0,.sym 1],.row [.sym 2,.sym 3]] (.r (.c (.lit (.int .i64 0)))) kR rfl rfl
    · rw[show Qdw x.natAbs y.natAbs=1 by unfold Qdw;rw[if_neg (by omega),if_pos (by omega)]] at hu;rw[show Qgs x y=1 by unfold Qgs;rw[if_neg (by omega),if_pos (by omega)]];exact Qaw (hp := true) (L := cz x ++ cz y ++ [gw (Qac x.natAbs),gw (Qac y.natAbs)]) Qae Qai
          [gp 193 [.row [.sym 0,.sym 1]] (.r (.c (.lit (.int .i64 1)))) eo193 sx rfl rfl,gp 193 [.row [.sym 2,.sym 3]] (.r (.c (.lit (.int .i64 1)))) eo193 sy rfl rfl,gm1 236 (.c (.sym 1)) (.r (.c (.sym 4))) eo236 (Qdn x.natAbs (hx.mono (by decide))),gm1 236 (.c (.sym 3)) (.r (.c (.sym 5))) eo236 (Qdn y.natAbs (hy.mono (by decide))),Qum 235 (.c (.sym 4)) (.c (.sym 5)) (.r (.c (.lit (.int .i64 1)))) eo235 hu] [] []
          func155 100 [.row [.sym 0,.sym 1],.row [.sym 2,.sym 3]] (.r (.c (.lit (.int .i64 1)))) kR rfl rfl
def Vbb(x y:Rat)(hx:RL x 134217728)(hy:RL y 134217728):PureC prog 58 [Qew x,Qew y] (.int .i64 (Qig x y)):=by
  have hc:=Vcq (x.num*(y.den:Int)) (y.num*(x.den:Int)) ((WL.mul hx.wn hy.wd.i).mono (by decide)) ((WL.mul hy.wn hx.wd.i).mono (by decide));rw[Kgx] at hc;exact Qaw (hp:=false) (L:=cF (x)++cF (y)++cz (x.num*(y.den:Int))++cz (y.num*(x.den:Int))++[gx (.int .i64 (Qig x y))]) Qae Qai
    [gp 156 [.row [.sym 0,.sym 1],.row [.lit (.bool false),.sym 5]] (.r (.row [.sym 6,.sym 7])) eo156 (Qkn _ _ (hx.wn.mono (by decide)) (hy.wd.mono (by decide))) rfl rfl,gp 156 [.row [.sym 3,.sym 4],.row [.lit (.bool false),.sym 2]] (.r (.row [.sym 8,.sym 9])) eo156 (Qkn _ _ (hy.wn.mono (by decide)) (hx.wd.mono (by decide))) rfl rfl,gp 155 [.row [.sym 6,.sym 7],.row [.sym 8,.sym 9]] (.r (.c (.sym 10))) eo155 hc rfl rfl]
    [] []
    func58 100 [.row [.sym 0,.sym 1,.lit (.bool false),.sym 2],.row [.sym 3,.sym 4,.lit (.bool false),.sym 5]] (.r (.c (.sym 10))) kR rfl rfl
def Uoc(n d:Int)(h1:-9223372036854775808<=n)(h2:n<9223372036854775808)(h3:-9223372036854775808<=d)(h4:d<9223372036854775808)(h0:d≠0):PureC prog 69 [.int .i64 n,.int .i64 d] (Qew (Rat.divInt n d)):=by
  have ho:=fof n d h0 (axw (Qal (k:=2) (by omega)) (by decide)) (axw (Qal (k:=2) (by omega)) (by decide));exact Qaw (hp:=false) (L:=[gx (.int .i64 n),gx (.int .i64 d)]++cz n++cz d++cF (Rat.divInt n d)) Qae Qai
    [gp 145 [.c (.sym 0)] (.r (.row [.sym 2,.sym 3])) eo145 (sof n h1 h2) rfl rfl,gp 145 [.c (.sym 1)] (.r (.row [.sym 4,.sym 5])) eo145 (sof d h3 h4) rfl rfl,gp 166 [.row [.sym 2,.sym 3],.row [.sym 4,.sym 5]] (.r (.row [.sym 6,.sym 7,.lit (.bool false),.sym 8])) eo166 ho rfl rfl]
    [] []
    func69 100 [.c (.sym 0),.c (.sym 1)] (.r (.row [.sym 6,.sym 7,.lit (.bool false),.sym 8])) kR rfl rfl
def Udy(n R k:Nat)(h1:R*R<=n)(h2:n<(R+1)*(R+1))(h:(Qac n).length<=k)(hk:k<=134217728):PureC prog 253 [Qdu (n:Int)] (.tuple #[Qdu (R:Int),Qdu ((n-R*R:Nat):Int)]) :=
 fun w=>Kte n R h1 h2 w (by have:=Uqv h;omega) (by omega)
def Kqi(x:Rat)(hx:x<0):PureC prog 205 [Qew x] (.tuple #[zF,.bool false]):=by
 have hs:x.num.sign<0:=by have:=mt Rat.num_nonneg.1 (Rat.not_le.2 hx);rw[axo (by omega)];decide
 exact Qaw (hp:=false) (L:=cF (x)++[gx (.int .i64 (x.num.sign))]) Qae Qai
  [gp 107 [.row [.sym 0,.sym 1,.lit (.bool false),.sym 2]] (.r (.c (.sym 3))) eo107 (Kaq x) rfl rfl]
  [Qgb .lss 3 .i64 (.sym 3) (.lit (.int .i64 0)) x.num.sign 0 true (by simp only[Qil];rw[decide_eq_true hs]) rfl rfl] []
  func205 200 [.row [.sym 0,.sym 1,.lit (.bool false),.sym 2]] (.tup [.row [.lit (.bool false),.lit .str0,.lit (.bool false),.lit .str0],.c (.lit (.bool false))]) kR rfl rfl
def Kqj (x : Rat) (hx : 0 ≤ x) (R D a b : Nat) (hr : PureC prog 253 [Qdu x.num] (.tuple #[Qdu (R : Int),Qdu (a : Int)])) (hd : PureC prog 253 [Ugj x.den] (.tuple #[Qdu (D : Int),Qdu (b : Int)])) :
    (a=0->b=0->PureC prog 205 [Qew x] (.tuple #[.agg #[.bool (decide ((R:Int)<0)),.string (Qcg (R:Int).natAbs),.bool (decide ((D:Int)<0)),.string (Qcg (D:Int).natAbs)],.bool true]))/\(¬(a=0/\b=0)->PureC prog 205 [Qew x] (.tuple #[zF,.bool false])):=by
  have hs:¬x.num.sign<0:=by
    have:=Rat.num_nonneg.2 hx;rcases(show x.num=0\/0<x.num by omega) with h|h
    · rw[h];decide
    · rw[axn h];decide
  have h3:=Qyp (a:Int);have h4:=Qyp (b:Int);refine⟨fun ha hb=>?_,fun hab=>?_⟩
  · exact Qaw (hp := false) (L := cF (x) ++ [gx (.int .i64 (x.num.sign))] ++ cz (R : Int) ++ cz (a : Int) ++ cz (D : Int) ++ cz (b : Int) ++ [gx (.int .i64 ((a : Int).sign)),gx (.int .i64 ((b : Int).sign))]) Qae Qai
      [gp 107 [.row [.sym 0,.sym 1,.lit (.bool false),.sym 2]] (.r (.c (.sym 3))) eo107 (Kaq x) rfl rfl,gp 253 [.row [.sym 0,.sym 1]] (.tup [.row [.sym 4,.sym 5],.row [.sym 6,.sym 7]]) eo253 hr rfl rfl,gp 253 [.row [.lit (.bool false),.sym 2]] (.tup [.row [.sym 8,.sym 9],.row [.sym 10,.sym 11]]) eo253 hd rfl rfl,gp 193 [.row [.sym 6,.sym 7]] (.r (.c (.sym 12))) eo193 h3 rfl rfl,gp 193 [.row [.sym 10,.sym 11]] (.r (.c (.sym 13))) eo193 h4 rfl rfl]
      [Qgb .lss 3 .i64 (.sym 3) (.lit (.int .i64 0)) x.num.sign 0 false (by simp only[Qil];rw[decide_eq_false hs]) rfl rfl,Qgb .neq 3 .i64 (.sym 12) (.lit (.int .i64 0)) (a:Int).sign 0 false (by subst ha;rfl) rfl rfl,Qgb .neq 3 .i64 (.sym 13) (.lit (.int .i64 0)) (b:Int).sign 0 false (by subst hb;rfl) rfl rfl] []
      func205 200 [.row [.sym 0,.sym 1,.lit (.bool false),.sym 2]] (.tup [.row [.sym 4,.sym 5,.sym 8,.sym 9],.c (.lit (.bool true))]) kR rfl rfl
  · by_cases ha:a=0
    · have hb:b≠0:=fun h=>hab ⟨ha,h⟩
      exact Qaw (hp:=false) (L:=cF (x)++[gx (.int .i64 (x.num.sign))]++cz (R:Int)++cz (a:Int)++cz (D:Int)++cz (b:Int)++[gx (.int .i64 ((a:Int).sign)),gx (.int .i64 ((b:Int).sign))]) Qae Qai
        [gp 107 [.row [.sym 0,.sym 1,.lit (.bool false),.sym 2]] (.r (.c (.sym 3))) eo107 (Kaq x) rfl rfl,gp 253 [.row [.sym 0,.sym 1]] (.tup [.row [.sym 4,.sym 5],.row [.sym 6,.sym 7]]) eo253 hr rfl rfl,gp 253 [.row [.lit (.bool false),.sym 2]] (.tup [.row [.sym 8,.sym 9],.row [.sym 10,.sym 11]]) eo253 hd rfl rfl,gp 193 [.row [.sym 6,.sym 7]] (.r (.c (.sym 12))) eo193 h3 rfl rfl,gp 193 [.row [.sym 10,.sym 11]] (.r (.c (.sym 13))) eo193 h4 rfl rfl]
        [Qgb .lss 3 .i64 (.sym 3) (.lit (.int .i64 0)) x.num.sign 0 false (by simp only[Qil];rw[decide_eq_false hs]) rfl rfl,Qgb .neq 3 .i64 (.sym 12) (.lit (.int .i64 0)) (a:Int).sign 0 false (by subst ha;rfl) rfl rfl,Qgb .neq 3 .i64 (.sym 13) (.lit (.int .i64 0)) (b:Int).sign 0 true (by rw[axn (by omega)];rfl) rfl rfl] []
        func205 200 [.row [.sym 0,.sym 1,.lit (.bool false),.sym 2]] (.tup [.row [.lit (.bool false),.lit .str0,.lit (.bool false),.lit .str0],.c (.lit (.bool false))]) kR rfl rfl
    · exact Qaw (hp := false) (L := cF (x) ++ [gx (.int .i64 (x.num.sign))] ++ cz (R : Int) ++ cz (a : Int) ++ cz (D : Int) ++ cz (b : Int) ++ [gx (.int .i64 ((a : Int).sign)),gx (.int .i64 ((b : Int).sign))]) Qae Qai
        [gp 107 [.row [.sym 0,.sym 1,.lit (.bool false),.sym 2]] (.r (.c (.sym 3))) eo107 (Kaq x) rfl rfl,gp 253 [.row [.sym 0,.sym 1]] (.tup [.row [.sym 4,.sym 5],.row [.sym 6,.sym 7]]) eo253 hr rfl rfl,gp 253 [.row [.lit (.bool false),.sym 2]] (.tup [.row [.sym 8,.sym 9],.row [.sym 10,.sym 11]]) eo253 hd rfl rfl,gp 193 [.row [.sym 6,.sym 7]] (.r (.c (.sym 12))) eo193 h3 rfl rfl]
        [Qgb .lss 3 .i64 (.sym 3) (.lit (.int .i64 0)) x.num.sign 0 false (by simp only[Qil];rw[decide_eq_false hs]) rfl rfl,Qgb .neq 3 .i64 (.sym 12) (.lit (.int .i64 0)) (a:Int).sign 0 true (by rw[axn (by omega)];rfl) rfl rfl] []
        func205 200 [.row [.sym 0,.sym 1,.lit (.bool false),.sym 2]] (.tup [.row [.lit (.bool false),.lit .str0,.lit (.bool false),.lit .str0],.c (.lit (.bool false))]) kR rfl rfl
def Uod(x:Rat)(hx:RL x 134217728):(Qer x->PureC prog 205 [Qew x] (.tuple #[Qew (sqr x),.bool true]))/\(¬Qer x->PureC prog 205 [Qew x] (.tuple #[zF,.bool false])):=by
 by_cases h0:0<=x
 .obtain⟨R,r1,r2⟩:=Qov x.num.natAbs;obtain⟨D,d1,d2⟩:=Qov x.den;obtain⟨e1,e2,e3⟩:=Qtf h0 r1 r2 d1 d2;have hr:=Udy x.num.natAbs R _ r1 r2 hx.1 lr;have hd:=Udy x.den D _ d1 d2 hx.2 lr;rw[Int.natAbs_of_nonneg (Rat.num_nonneg.2 h0)] at hr;rw[Qhv] at hd;obtain⟨k1,k2⟩:=Kqj x h0 R D _ _ hr hd;refine⟨fun h=>?_,fun h=>k2 (fun hab=>h (e1.2 ⟨by omega,by omega⟩))⟩;obtain⟨f1,f2⟩:=e1.1 h;obtain⟨_,g1,g2⟩:=e3 h;have:=k1 (by omega) (by omega);have e0:Qew (sqr x)=.agg #[.bool (decide ((R:Int)<0)),.string (Qcg (R:Int).natAbs),.bool (decide ((D:Int)<0)),.string (Qcg (D:Int).natAbs)]:=by
   unfold Qew;rw[g1,g2];simp
  rw[e0];exact this
 .have h1:x<0:=Rat.not_le.1 h0;exact⟨fun⟨r,h2,h3⟩=>absurd (h3▸Rat.mul_nonneg h2 h2) h0,fun _=>Kqi x h1⟩
def N1(z:QC):FR:=.row (cn z)
def R1(q:Rat):FR:=.c (gr q)
def qc0{z:QC}:z=⟨0,0⟩↔z.re=0/\z.im=0:=⟨fun h=>by rw[h];exact⟨rfl,rfl⟩,fun h=>Qcj h.1 h.2⟩
def Kmb{z:QC}(h:z≠⟨0,0⟩):z.re*z.re+z.im*z.im≠0:=fun e=>h (qc0.2 (Kbc.1 e))
def Qxd{x y:QC}{k l:Nat}(h0:y≠⟨0,0⟩)(hx:ZL x k)(hy:ZL y l):ZL (x/y) (k+l+(k+l)+1+(l+l+(l+l)+1)):=Umn (Kmb h0) hx hy
def Qbe{z:QC}{k:Nat}(h:ZL z k):RL (z.re*z.re+z.im*z.im) (k+k+(k+k)+1):=Qaz (Qad h.1 h.1) (Qad h.2 h.2)
def Qeg{z:QC}{k:Nat}(h:ZL z k):ZL (cj z) k:=⟨h.1,Qah h.2⟩
def Qbq(i j:Int)(a1:-9223372036854775808<=i:=by decide)(a2:i<9223372036854775808:=by decide)(b1:-9223372036854775808<=j:=by decide)(b2:j<9223372036854775808:=by decide):ZL ⟨(i:Rat),(j:Rat)⟩ 2:=⟨Qml i a1 a2,Qml j b1 b2⟩
def Qfi(x y:QC){m l:Nat}(hx:ZL x m)(hy:ZL y l)(hb:m+l+(m+l)<137438953472):Qbj prog true 129 [N1 x,N1 y] (.r (N1 (x*y))) :=
 Key eo129 fun w A u v hR _ hu hv=>(Kgk x.re x.im y.re y.im u v A w (Qfq.1 hu) (Qfq.1 hv) (hR rfl) m l hx.1 hx.2 hy.1 hy.2 hb).mono fun e w' ⟨z,h1,h2,h3⟩=>⟨z,h1,Qfq.2 h3,h2⟩
def Qem(x y:QC){m l:Nat}(hx:ZL x m)(hy:ZL y l)(hb:m+l+(m+l)<137438953472):Qbj prog true 128 [N1 x,N1 y] (.r (N1 (x-y))) :=
 Key eo128 fun w A u v hR _ hu hv=>(Kxm x.re x.im y.re y.im u v A w (Qfq.1 hu) (Qfq.1 hv) (hR rfl) m l hx.1 hx.2 hy.1 hy.2 hb).mono fun e w' ⟨z,h1,h2,h3⟩=>⟨z,h1,Qfq.2 h3,h2⟩
def Qlk(x:QC)(hx:ZL x 137438953472):Qbj prog true 173 [N1 x] (.r (N1 (cj x))) :=
 Qnm eo173 fun w A u hR _ hu=>(Qzw x.re x.im u A w (Qfq.1 hu) (hR rfl) hx.2).mono fun e w' ⟨z,h1,h2,h3⟩=>⟨z,h1,Qfq.2 h3,h2⟩
def Qqb(x:QC)(r:Bool)(hr:r=true↔x=⟨0,0⟩):Qbj prog true 170 [N1 x] (B1 r) :=
 Qnm eo170 fun w A u hR _ hu=>(Kom x.re x.im u A w (Qfq.1 hu) r (hr.trans qc0)).mono fun e w' h=>⟨_,h.1,rfl,h.2⟩
def Kem(x y:QC)(h0:y≠⟨0,0⟩){m l:Nat}(hx:ZL x m)(hy:ZL y l)(hb:(m+l+(m+l)+1)+(l+l+(l+l)+1)<137438953472):Qbj prog true 175 [N1 x,N1 y] (.r (N1 (x/y))) :=
 Key eo175 fun w A u v hR _ hu hv=>(Kxl x.re x.im y.re y.im _ rfl (Kmb h0) u v A w (Qfq.1 hu) (Qfq.1 hv) (hR rfl) m l hx.1 hx.2 hy.1 hy.2 hb).mono fun e w' ⟨z,h1,h2,h3⟩=>⟨z,h1,Qfq.2 h3,h2⟩
def Qsp(i j:Int)(a1:-9223372036854775808<=i:=by decide)(a2:i<9223372036854775808:=by decide)(b1:-9223372036854775808<=j:=by decide)(b2:j<9223372036854775808:=by decide):Qbj prog true 79 [.c (gx (.int .i64 i)),.c (gx (.int .i64 j))] (.r (N1 ⟨(i:Rat),(j:Rat)⟩)) :=
 Key eo79 fun w A u v hR _ hu hv=>by
  cases(hu:u=_);cases(hv:v=_);exact(Kxh i j a1 a2 b1 b2 A w (hR rfl)).mono fun e w' ⟨z,h1,h2,h3⟩=>⟨z,h1,Qfq.2 h3,h2⟩
def Klt{z:QC}(h:Qaj z){w:World}{A:Nat->Prop}:FV.R (.tup [.row (Qan z).cells,.c (gl (.int .i64 0))]) (.tuple #[Kzk z.re z.im,.int .i64 (Qyb z.re z.im)]) w A:=by
 refine(FV.val_ok (u:=.tuple #[(Qan z).val,.int .i64 0]) kR).2 ?_;rw[Kzk,Qyb,if_pos (show Qag z.re/\Qag z.im from h),if_pos (show Qag z.re/\Qag z.im from h),Qjk];rfl
def Qej(z:QC)(hz:ZL z 137438953472)(h:Qaj z):Qbj prog true 105 [N1 z] (.tup [.row (Qan z).cells,.c (gl (.int .i64 0))]) :=
 Qnm eo105 fun w A u hR _ hu=>(Qzx z.re z.im u A w (Qfq.1 hu) hz.1 hz.2).mono fun e w' h1=>⟨_,h1.1,Klt h,h1.2⟩
def Krl{z:QC}(h:¬Qaj z){w:World}{A:Nat->Prop}:FV.R (.tup [.row zGG,.c (gl (.int .i64 4))]) (.tuple #[Kzk z.re z.im,.int .i64 (Qyb z.re z.im)]) w A:=by
 refine(FV.val_ok (u:=.tuple #[zG,.int .i64 4]) kR).2 ?_;rw[Kzk,Qyb,if_neg (show ¬(Qag z.re/\Qag z.im) from h),if_neg (show ¬(Qag z.re/\Qag z.im) from h)]
def Qex(z:QC)(hz:ZL z 137438953472)(h:¬Qaj z):Qbj prog true 105 [N1 z] (.tup [.row zGG,.c (gl (.int .i64 4))]) :=
 Qnm eo105 fun w A u hR _ hu=>(Qzx z.re z.im u A w (Qfq.1 hu) hz.1 hz.2).mono fun e w' h1=>⟨_,h1.1,Krl h,h1.2⟩
def Qgl(z:QC)(h:Qaj z):Qbj prog true 76 [.row (Qan z).cells] (.tup [N1 z,.c (gl (.bool true))]) :=
 Qnm eo76 fun w A u hR _ hu=>by
  rw[(FR.val_ok (u:=(Qan z).val) (x:=.row (Qan z).cells) kR).1 hu];obtain⟨l1,l2,l3,l4⟩:=Ubj h;have hg:Qob (Qan z).val:=⟨z,by rw[Qjk];rfl,h.1,h.2⟩
  refine(Koi _ _ _ _ _ _ _ _ (axd l1 (by decide)) (axd l2 (by decide)) (axd l3 (by decide)) (axd l4 (by decide)) A w (hR rfl) true ⟨fun _=>hg,fun _=>rfl⟩).mono ?_;rintro e w' ⟨u,h1,h2,z',h3,h4⟩;have h5:=h4 hg;have h6:z=z':=Kak ((Qjk z).symm.trans h5);subst h6;exact⟨_,h1,⟨[u,.bool true],rfl,Qfq.2 h3,rfl,trivial⟩,h2⟩
def Krn(g:Qbg)(hs:g.Sz)(r:Bool)(hr:r=true↔GOk g.val):Qbj prog true 76 [.row g.cells] (.tup [.row [ga,ga],.c (gx (.bool r))]) :=
 Qnm eo76 fun w A u hR _ hu=>by
  rw[(FR.val_ok (u:=g.val) (x:=.row g.cells) kR).1 hu];obtain⟨l1,l2,l3,l4⟩:=hs;refine(Koi _ _ _ _ _ _ _ _ (axd l1 (by decide)) (axd l2 (by decide)) (axd l3 (by decide)) (axd l4 (by decide)) A w (hR rfl) r hr).mono ?_;rintro e w' ⟨u,h1,h2,z',h3,h4⟩;obtain⟨vs,rfl,h5⟩:=(Qfq.2 h3:(FR.row (cn z')).R u w' A)
  exact⟨_,h1,⟨[_,.bool r],rfl,⟨vs,rfl,Qop h5⟩,rfl,trivial⟩,h2⟩
def Qbb(q:Rat):Qbj prog false 78 [R1 q] (.r (.c (gx (.int .i64 q.num.sign)))) :=
 Qnm eo78 fun w A u hR _ hu=>(Qgx q u A w hu).mono fun e w' ⟨h1,h2⟩=>⟨_,h1,rfl,by subst h2;exact Below.refl _ _⟩
def Keo(x y:Rat){m l:Nat}(hx:RL x m)(hy:RL y l)(hb:m+l<137438953472):Qbj prog true 149 [R1 x,R1 y] (.r (.c (gx (.int .i64 (Qig x y))))) :=
 Key eo149 fun w A u v hR _ hu hv=>(Kgl x y u v A w hu hv m l hx hy hb).mono fun e w' ⟨h1,h2⟩=>⟨_,h1,rfl,h2⟩
def Ken(i j:Int)(a1:-9223372036854775808<=i)(a2:i<9223372036854775808)(b1:-9223372036854775808<=j)(b2:j<9223372036854775808)(h0:j≠0):Qbj prog true 177 [.c (gx (.int .i64 i)),.c (gx (.int .i64 j))] (.r (R1 (Rat.divInt i j))) :=
 Key eo177 fun w A u v hR _ hu hv=>by
  cases(hu:u=_);cases(hv:v=_);exact(Qod i j a1 a2 b1 b2 h0 w).mono fun e w' ⟨z,h1,h2⟩=>⟨z,h1,h2.2 A (hR rfl),h2.1⟩
def Qyf(x y:QC)(hx:ZL x 6000000)(hy:ZL y 6000000)(h0:y≠⟨0,0⟩):Qbj prog false 180 [G1 x,G1 y] (.r (G1 (x/y))):=Qcd eo180 (Uww x y hx hy h0) kR kR
def Uin(x:QC):Qbj prog false 165 [G1 x] (.r (G1 (cj x))):=Qcd eo165 (Uol x) kR kR
def Qlg(x:QC)(hx:ZL x 33554432):Qbj prog false 133 [G1 x] (.r (.row (rF (nm x)))):=Qcd eo133 (Uon x hx) kR kR
def Kes(z:QC)(r:Bool)(hr:r=true↔Qaj z):Qbj prog false 196 [G1 z] (B1 r):=Qcd eo196 (Uwv z r hr) kR kR
def F1(q:Rat):FR:=.row (rF q)
def Qcp(q:Rat):Qbj prog false 107 [F1 q] (.r (.c (gx (.int .i64 q.num.sign)))):=Qcd eo107 (Kaq q) kR kR
def Qfv(n:Int)(h1:-9223372036854775808<=n)(h2:n<9223372036854775808):Qbj prog false 51 [.c (gx (.int .i64 n))] (.r (F1 (n:Rat))):=Qcd eo51 (Utw n h1 h2) kR kR
def Uis(x y:Rat)(hx:RL x 134217728)(hy:RL y 134217728):Qbj prog false 58 [F1 x,F1 y] (.r (.c (gx (.int .i64 (Qig x y))))):=Qcd eo58 (Vbb x y hx hy) kR kR
def Qek(x y:Rat)(hx:RL x 134217728)(hy:RL y 134217728):Qbj prog false 137 [F1 x,F1 y] (.r (F1 (x+y))):=Qcd eo137 (Klf x y hx hy) kR kR
def Qat(x y:Rat)(hx:RL x 134217728)(hy:RL y 134217728):Qbj prog false 135 [F1 x,F1 y] (.r (F1 (x*y))):=Qcd eo135 (Qmy x y hx hy) kR kR
def Qcn(x y:Rat)(hx:RL x 134217728)(hy:RL y 134217728)(h0:y≠0):Qbj prog false 139 [F1 x,F1 y] (.r (F1 (x/y))):=Qcd eo139 (Unm x y hx hy h0) kR kR
def Udp(x:Rat)(hx:RL x 134217728)(h:Qer x):Qbj prog false 205 [F1 x] (.tup [F1 (sqr x),.c (gl (.bool true))]):=Qcd eo205 ((Uod x hx).1 h) kR kR
def Ksm(x:Rat)(hx:RL x 134217728)(h:¬Qer x):Qbj prog false 205 [F1 x] (.tup [.row zFG,.c (gl (.bool false))]):=Qcd eo205 ((Uod x hx).2 h) kR kR
def zRA:List AC:=[.lit (.bool false),.lit .nils,.lit (.bool false),.lit .nils]
def Klg{L:List GF}{f:FuncId}(ent:Tr.Enters prog f)(b:Nat)(args:List AR)(res:AC)(q:Rat)(fa:List FR)
  (h:∀(m:Nat) (C:Array Value) (w:World) (A:Nat->Prop) (vs:List Value),Rcv A w->w.heap[m]?=some (.cells C 232 (0,0))->C.size=4->NoW (.cells C 232 (0,0))->okf fa vs w A ->
   Calls prog f (.pointer (some ⟨m,0,none⟩)::vs).toArray w fun e w'=>e=.returned (.pointer (some ⟨m,0,none⟩))/\Qlm m q w w')
  (ha:Kda L args=some fa:=by kernel_rfl) (hr:res.lk L=some (gr q):=by kernel_rfl):GC prog L true :=
 ⟨{ f,args:=.c (.own b 0)::args,res:=.r (.c res),needs:=[(b,⟨zRA,232,none⟩)],give:=some b },ent,fun σ w A us hR hA hu hn n hσ hAn=>by
  match us,hu with
  | u::us,hu =>
   obtain⟨⟨n0,h0,rfl⟩,hu⟩:=hu;have e0:n0=n:=by
    have:some n0=some n:=h0.symm.trans hσ;cases this;rfl
   subst e0;obtain⟨⟨n1,vs,h1,_,h2,h3⟩,_⟩:=hn;have e1:n1=n0:=by
    have:some n1=some n0:=h1.symm.trans hσ;cases this;rfl
   subst e1;have e2:vs=[.bool false,.slice none 0 0,.bool false,.slice none 0 0]:=by
    match vs,h3 with
    | [a,b,c,d],⟨k1,k2,k3,k4,_⟩=>cases k1;cases k2;cases k3;cases k4;rfl
   subst e2;refine(h n1 _ w A us (hR rfl) h2 rfl Qdg ((Qln ha).1 hu)).mono ?_;rintro e w' ⟨rfl,hp⟩;exact⟨_,rfl,(AC.lk_ok hr).2 (hp.ratP (hR rfl)),hp.1⟩⟩
section
variable{L:List GF}
def Uhb(x:Rat)(hx:RL x 137438953472)(b:Nat)(ax:AR)(res:AC)(ha:Kda L [ax]=some [.c (gr x)]:=by kernel_rfl)(hr:res.lk L=some (gr (-x)):=by kernel_rfl):GC prog L true :=
 Klg eo187 b [ax] res (-x) [.c (gr x)] (fun m C w A vs hA hm h4 hC hu=>by
  match vs,hu with
  | [v],hu=>exact Qxa m C x v A w hm h4 hC hu.1 hx) ha hr
def Uor(x y:Rat){k l:Nat}(hx:RL x k)(hy:RL y l)(hb:k+l<137438953472)(b:Nat)(ax ay:AR)(res:AC)(ha:Kda L [ax,ay]=some [.c (gr x),.c (gr y)]:=by kernel_rfl)(hr:res.lk L=some (gr (x+y)):=by kernel_rfl):GC prog L true :=
 Klg eo186 b [ax,ay] res (x+y) [.c (gr x),.c (gr y)] (fun m C w A vs hA hm h4 hC hu=>by
  match vs,hu with
  | [v,v'],hu=>exact Qkq m C x y v v' A w hm h4 hC hu.1 hu.2.1 k l hx hy hb) ha hr
def Kas(x y:Rat){k l:Nat}(hx:RL x k)(hy:RL y l)(hb:k+l<137438953472)(b:Nat)(ax ay:AR)(res:AC)(ha:Kda L [ax,ay]=some [.c (gr x),.c (gr y)]:=by kernel_rfl)(hr:res.lk L=some (gr (x-y)):=by kernel_rfl):GC prog L true :=
 Klg eo215 b [ax,ay] res (x-y) [.c (gr x),.c (gr y)] (fun m C w A vs hA hm h4 hC hu=>by
  match vs,hu with
  | [v,v'],hu=>exact Qqq m C x y v v' A w hm h4 hC hu.1 hu.2.1 k l hx hy hb) ha hr
def Uos(x y:Rat){k l:Nat}(hx:RL x k)(hy:RL y l)(hb:k+l<137438953472)(b:Nat)(ax ay:AR)(res:AC)(ha:Kda L [ax,ay]=some [.c (gr x),.c (gr y)]:=by kernel_rfl)(hr:res.lk L=some (gr (x*y)):=by kernel_rfl):GC prog L true :=
 Klg eo216 b [ax,ay] res (x*y) [.c (gr x),.c (gr y)] (fun m C w A vs hA hm h4 hC hu=>by
  match vs,hu with
  | [v,v'],hu=>exact Kgn m C x y v v' A w hm h4 hC hu.1 hu.2.1 k l hx hy hb) ha hr
def Qqg(x:Rat)(h0:x≠0){k:Nat}(hx:RL x k)(hb:k<137438953472)(b:Nat)(ax:AR)(res:AC)(ha:Kda L [ax]=some [.c (gr x)]:=by kernel_rfl)(hr:res.lk L=some (gr (x⁻¹)):=by kernel_rfl):GC prog L true :=
 Klg eo191 b [ax] res x⁻¹ [.c (gr x)] (fun m C w A vs hA hm h4 hC hu=>by
  match vs,hu with
  | [v],hu=>exact Kgm m C x h0 v A w hm h4 hC hu.1 k hx hb) ha hr
end
def Klu(q:Rat):Qbj prog true 209 [.c (gro q)] (.r (.c (gr q))) :=
 Qnm eo209 fun w A u hR _ hu=>(Qed q u A w hu (hR rfl)).mono fun e w' ⟨v,h1,h2,h3⟩=>⟨v,h1,h3,h2⟩
def ng(z:QC):QC:=⟨-z.re,-z.im⟩
def Kzj(z:QC):ng z=⟨0,0⟩-z:=by apply Qcj<;>simp only[ng,qsr,qsi]<;>grind
def Uuu{z:QC}{k:Nat}(h:ZL z k):ZL (ng z) k:=⟨Qah h.1,Qah h.2⟩
def Qrr{z:QC}{k:Nat}(h:ZL z k):ZL (⟨0,0⟩-z) k:=by rw[<-Kzj];exact Uuu h
def Uux{z:QC}{u:Value}{w:World}{A:Nat->Prop}(h:(FR.row (cq z)).R u w A):(FR.row (cn z)).R u w A:=by
 obtain⟨vs,rfl,h⟩:=h
 match vs,h with
 | [a,b],h=>exact⟨[a,b],rfl,.inr h.1,.inr h.2.1,trivial⟩
def Ucp{f:FuncId}{fa:List FR}{z:QC}(h:Qbj prog true f fa (.r (.row (cq z)))):Qbj prog true f fa (.r (.row (cn z))) :=
 ⟨h.ent,fun w A vs hR hA hu=>(h.ok w A vs hR hA hu).mono fun r w' ⟨v,h1,h2,h3⟩=>⟨v,h1,Uux h2,h3⟩⟩
end Go.Proofs.YtmimficdpfmfgaaGreat
namespace Go.Proofs.YtmimficdpfmfgaaGreat
open Go.RowKit Tr Proofs.Tryz
def Kmc(x y:Rat):Rat.divInt (x.num*(y.den:Int)) ((x.den:Int)*y.num)=x/y:=by
 rw[<-Rat.divInt_mul_divInt,Rat.num_divInt_den,Qks,Rat.div_def]
def Kxn(m:Nat)(C:Array Value)(x y:Rat)(vx vy:Value)(A:Nat->Prop)(w:World)(hm:w.heap[m]?=some (.cells C 232 (0,0)))(hC4:C.size=4)(hC:NoW (.cells C 232 (0,0)))(hx:Qbk x vx w A)(hy:Qbk y vy w A)(k l:Nat)(hlx:RL x k)(hly:RL y l)(hkl:k+l<137438953472)(h0:y≠0) :
  Calls prog 214 #[.pointer (some ⟨m,0,none⟩),vx,vy] w fun e w'=>e=.returned (.pointer (some ⟨m,0,none⟩))/\Qlm m (x/y) w w':=by
 have hx:=hx.noA;have hy:=hy.noA;obtain⟨b,rfl⟩:=hx.shape;obtain⟨b2,rfl⟩:=hy.shape;have hmlt:m<w.heap.size:=(axa.1 hm).1;obtain⟨_,eb,hxn,_⟩:=id hx;cases eb;obtain⟨_,eb,hyn,_⟩:=id hy;cases eb;have HM:=hid (And.intro hm hC);clear hm hC
 go_enter func214,Tryz.ntmps214
 go_wp2_with fail
 refine Qav [(.lit,[]),(.new zI,[]),(.lit,[]),(.lit,[]),(.lit,[]),(.lit,[]),(.val,[]),(.on 1 zI,[6]),(.new zI,[]),(.lit,[]),(.val,[]),(.lit,[]),(.lit,[]),(.lit,[]),(.on 8 zI,[10])]
  (Qfj [(6,Qce y.den),(7,Qce (x.num*(y.den:Int))),(10,Qce x.den),(14,Qce ((x.den:Int)*y.num))]) kR ?_ ?_ (by simp[Qbi]) (by simp) kR
 .exact Qbh (by simp[Qce.keeps])
 .refine⟨_,fun f w1 h1=>by go_simp;rfl,?_⟩;refine⟨fun f w1=>by go_simp,?_⟩
  repeat (refine⟨_,fun f w1 h1=>by go_simp;rfl,?_⟩)
  simp only[Act.put,nrA,nrB,nrC,Nat.reduceAdd];refine⟨fun f w1 A1 h1 hA hN hd K hK=>by
   go_simp
   refine(Qfa y _ A1 w1 (Qdk (Qbk.keeps _) hy h1 hN) hA).mono ?_;rintro e w' ⟨v,rfl,hb,hi⟩;exact hK _ _ hb hi,?_⟩
  simp only[Act.put,nrA,nrB,nrC,Nat.reduceAdd];refine⟨fun f w1 A1 m1 h1 hA hN hAm hm0 e hz hd K hK=>by
   simp only[e] at hK ⊢;have i1:Qce y.den (f 6) w1 A1:=hd 6 (by simp)
   go_simp
   refine(Qgm m1 0 _ _ x.num y.den _ _ A1 w1 hz (by decide) Qbi (Qdk (Qce.keeps _) hxn h1 hN) i1 (by have:=hlx.1;omega) (by have:=hly.2;simp;omega)).mono ?_;rintro e w' ⟨rfl,hp⟩;exact hK _ w' hp.1 (hp.intP (by decide) hA),?_⟩
  refine⟨fun f w1=>by go_simp,?_⟩;refine⟨_,fun f w1 h1=>by go_simp;rfl,?_⟩;simp only[Act.put,nrA,nrB,nrC,Nat.reduceAdd];refine⟨fun f w1 A1 h1 hA hN hd K hK=>by
   go_simp
   refine(Qfa x _ A1 w1 (Qdk (Qbk.keeps _) hx h1 hN) hA).mono ?_;rintro e w' ⟨v,rfl,hb,hi⟩;exact hK _ _ hb hi,?_⟩
  repeat (refine⟨_,fun f w1 h1=>by go_simp;rfl,?_⟩)
  simp only[Act.put,nrA,nrB,nrC,Nat.reduceAdd];refine⟨fun f w1 A1 m1 h1 hA hN hAm hm0 e hz hd K hK=>by
   simp only[e] at hK ⊢;have i1:Qce x.den (f 10) w1 A1:=hd 10 (by simp)
   go_simp
   refine(Qgm m1 0 _ _ x.den y.num _ _ A1 w1 hz (by decide) Qbi i1 (Qdk (Qce.keeps _) hyn h1 hN) (by have:=hlx.2;simp;omega) (by have:=hly.1;omega)).mono ?_;rintro e w' ⟨rfl,hp⟩;exact hK _ w' hp.1 (hp.intP (by decide) hA),?_⟩
  intro f w1 h1 hF;have i1:Qce (x.num*(y.den:Int)) (f 7) w1 NoA:=hF.1.1.2;have i2:Qce ((x.den:Int)*y.num) (f 14) w1 NoA:=hF.2;clear hF;simp only[Act.put,nrA,nrB,nrC];generalize f 7=v8 at *
  generalize f 14=v14 at *
  have hbw:Below w.heap.size w w1:=br.drew.trans h1;have hS:=Qez m C _ _ (Int.mul_ne_zero Qfr (fun e=>h0 (Rat.num_eq_zero.1 e))) _ _ NoA w1 ((h1.block m hmlt).trans HM.out.1) hC4 HM.out.2 i1 i2 (by rw[axm];have:=Qfu (b:=(y.den:Int).natAbs) hlx.1 (by simpa using hly.2);omega) (by rw[axm];have:=Qfu (a:=(x.den:Int).natAbs) (by simpa using hlx.2) hly.1;omega);rw[Kmc] at hS;have HS:=hid hS;clear hS i1 i2 hx hy hxn hyn
  go_wp2_with (go_at_call 223;refine HS.out.mono ?_;rintro e w' ⟨rfl,hp⟩)
  go_ret
  exact⟨rfl,hp.below hbw⟩
def gws(l:List Nat):GF where
 R:=fun v w A=>Qjo A w v l
 int:=false
 keeps:=fun v w w' A A' hs hk h=>Qjo.keep hs hk h
 cell:=fun v w A h=>by obtain⟨p,cap,rfl,_⟩:=h;rfl
 noint:=fun _ v w A h k x=>by obtain⟨p,cap,rfl,_⟩:=h;simp
 ex:=none
 exact:=fun u e=>by cases e
def rq(q:Rat):List GF:=[gl (.bool (decide (q.num<0))),gws (Qac q.num.natAbs),gl (.bool false),gws (Qac q.den)]
def RC(L:List GF)(cs:List AC)(q:Rat):Prop:=Kkr L cs=some (rq q)\/cs=zRA/\q=0
def Kre(b:Bool)(s1 s2:Value){w:World}{l1 l2:List Nat}(h1:WSl w s1 l1)(h2:WSl w s2 l2)(T:TypeId):NoW (.cells #[.bool b,s1,.bool false,s2] T (0,0)):=by
 obtain⟨p,c,rfl,_⟩:=h1;obtain⟨p2,c2,rfl,_⟩:=h2;intro cs T' fr e i k x hx;cases e
 match i,hx with
 | 0,hx=>simp at hx
 | 1,hx=>simp at hx
 | 2,hx=>simp at hx
 | 3,hx=>simp at hx
 | i+4,hx=>simp at hx
def Kja{q:Rat}{vs:List Value}{w:World}{A:Nat->Prop}(h:okg (rq q) vs w A):∃ s1 s2,vs=[.bool (decide (q.num<0)),s1,.bool false,s2]/\Qjo A w s1 (Qac q.num.natAbs)/\Qjo A w s2 (Qac q.den):=by
 match vs,h with
 | [a,b,c,d],⟨h1,h2,h3,h4,_⟩ =>
  have h1:a=.bool (decide (q.num<0)):=h1;have h3:c=.bool false:=h3;subst h1;subst h3;exact⟨b,d,rfl,h2,h4⟩
def Udr{q:Rat}{w:World}{A:Nat->Prop}{n:Nat}{s1 s2:Value}{T:TypeId}(hn:w.heap[n]?=some (.cells #[.bool (decide (q.num<0)),s1,.bool false,s2] T (0,0)))(hA:¬A n)(h1:Qjo A w s1 (Qac q.num.natAbs))(h2:Qjo A w s2 (Qac q.den)):Qbk q (.pointer (some ⟨n,0,none⟩)) w A:=by
 have hlt:=(axa.1 hn).1;refine⟨n,rfl,⟨n,0,s1,rfl,hlt,hA,by simp[World.cell?,hn],by simp[World.cell?,hn],h1⟩,.inl ⟨n,2,s2,rfl,hlt,hA,?_,by simp[World.cell?,hn],h2⟩⟩;have:decide ((q.den:Int)<0)=false:=by simp
 rw[this];simp[World.cell?,hn]
def Qjo.sub{A B:Nat->Prop}{w:World}{v:Value}{l:List Nat}(h:Qjo A w v l)(hs:∀ n,B n->A n):Qjo B w v l:=Qjo.keep lr (fun b _ hb=>⟨rfl,fun h=>hb (hs b h)⟩) h
def RC.rat{L:List GF}{cs:List AC}{q:Rat}(h:RC L cs q){σ:Sg}{w:World}{A:Nat->Prop}{n:Nat}{vs:List Value}{T:TypeId}(hn:w.heap[n]?=some (.cells vs.toArray T (0,0)))(ho:oks (gT L) σ cs vs w A) :
  Qbk q (.pointer (some ⟨n,0,none⟩)) w NoA/\vs.length=4/\NoW (.cells vs.toArray T (0,0)):=by
 rcases h with h|⟨rfl,rfl⟩
 .obtain⟨s1,s2,rfl,h1,h2⟩:=Kja ((Qif h).1 ho);exact⟨Udr hn (fun h=>h) (h1.sub (fun _ h=>h.elim)) (h2.sub (fun _ h=>h.elim)),rfl,Kre _ _ _ h1.wsl h2.wsl T⟩
 .have e2:vs=[.bool false,.slice none 0 0,.bool false,.slice none 0 0]:=by
   match vs,ho with
   | [a,b,c,d],⟨k1,k2,k3,k4,_⟩=>cases k1;cases k2;cases k3;cases k4;rfl
  subst e2;have hlt:=(axa.1 hn).1;have hz:∀ A,Qjo A w (.slice none 0 0) (Qac (0:Int).natAbs):=fun A=>by
   rw[show Qac (0:Int).natAbs=[] from Qbz.2 rfl];exact⟨none,0,rfl,Nat.le_refl _,fun h=>absurd rfl h⟩
  refine⟨⟨n,rfl,⟨n,0,_,rfl,hlt,fun h=>h,by simp[World.cell?,hn],by simp[World.cell?,hn],hz _⟩,.inr ⟨rfl,⟨n,2,_,rfl,hlt,fun h=>h,by simp[World.cell?,hn],by simp[World.cell?,hn],hz _⟩⟩⟩,rfl,?_⟩;intro cs T' fr e i k x hx;cases e
  match i,hx with
  | 0,hx=>simp at hx
  | 1,hx=>simp at hx
  | 2,hx=>simp at hx
  | 3,hx=>simp at hx
  | i+4,hx=>simp at hx
def Qlm.cells{m:Nat}{q:Rat}{w w':World}(h:Qlm m q w w'){A:Nat->Prop}(hA:Rcv A w):∃ us:List Value,w'.heap[m]?=some (.cells us.toArray 232 (0,0))/\okg (rq q) us w' A:=by
 obtain⟨h1,s1,s2,h2,h3,h4⟩:=h;have hA':Rcv A w':=fun b hb=>by
  by_cases e:b=m
  .subst e;exact⟨_,h2,Kre _ _ _ h3 h4 _⟩
  .obtain⟨zz,k1,k2⟩:=hA b hb;exact⟨zz,(h1.block b (axa.1 k1).1 e).trans k1,k2⟩
 exact⟨_,h2,rfl,h3.avoids hA',rfl,h4.avoids hA',trivial⟩
def Qjv:RL (0:Rat) 1:=⟨by decide +kernel,by decide +kernel⟩
def Qei{x y:Rat}(h0:y≠0){k l:Nat}(hx:RL x k)(hy:RL y l):RL (x/y) (k+l):=by rw[Rat.div_def];exact Qad hx (Qca h0 hy)
def Uwx{L:List GF}(x y:Rat)(h0:y≠0){k l:Nat}(hx:RL x k)(hy:RL y l)(hb:k+l<137438953472)(b:Nat)(ax ay:AR)(res:AC)(ha:Kda L [ax,ay]=some [.c (gr x),.c (gr y)]:=by kernel_rfl)(hr:res.lk L=some (gr (x/y)):=by kernel_rfl):GC prog L true :=
 Klg eo214 b [ax,ay] res (x/y) [.c (gr x),.c (gr y)] (fun m C w A vs hA hm h4 hC hu=>by
  match vs,hu with
  | [v,v'],hu=>exact Kxn m C x y v v' A w hm h4 hC hu.1 hu.2.1 k l hx hy hb h0) ha hr
def Uzo{L:List GF}{f:FuncId}(ent:Tr.Enters prog f)(b:Nat)(cs:List AC)(self:Bool)(args:List AR)(cs':List AC)(x q:Rat)(fa:List FR)(hc:RC L cs x)
  (h:∀(m:Nat) (C:Array Value) (w:World) (A:Nat->Prop) (vs:List Value),Rcv A w->w.heap[m]?=some (.cells C 232 (0,0))->C.size=4->NoW (.cells C 232 (0,0))->Qbk x (.pointer (some ⟨m,0,none⟩)) w NoA->okf fa vs w A ->
   Calls prog f (.pointer (some ⟨m,0,none⟩)::(if self then .pointer (some ⟨m,0,none⟩)::vs else vs)).toArray w fun e w'=>e=.returned (.pointer (some ⟨m,0,none⟩))/\Qlm m q w w')
  (ha:Kda L args=some fa:=by kernel_rfl) (hr:Kkr L cs'=some (rq q):=by kernel_rfl):GC prog L true :=
 ⟨{ f,args:=.c (.own b 0)::(if self then .c (.own b 0)::args else args),res:=.r (.c (.own b 0)),needs:=[(b,⟨cs,232,none⟩)],put:=some (b,⟨cs',232,none⟩) },ent,fun σ w A us hR hA hu hn n hσ hAn=>by
  have e0:∃ vs,us=.pointer (some ⟨n,0,none⟩)::(if self then .pointer (some ⟨n,0,none⟩)::vs else vs)/\okr (gT L) σ args vs w A:=by
   have own:∀ v,(AR.c (.own b 0)).ok (gT L) σ v w A->v=.pointer (some ⟨n,0,none⟩):=fun v hv=>by
    obtain⟨m,h1,rfl⟩:=hv;have h1:some m=some n:=h1.symm.trans hσ;cases h1;rfl
   cases self
   .match us,hu with
    | u::us,hu=>exact⟨us,by rw[own u hu.1];rfl,hu.2⟩
   .match us,hu with
    | u::v::us,hu=>exact⟨us,by rw[own u hu.1,own v hu.2.1];rfl,hu.2.2⟩
  obtain⟨vs,rfl,hv⟩:=e0;obtain⟨⟨n1,ws,h1,_,h2,h3⟩,_⟩:=hn;have e1:n1=n:=by
   have:some n1=some n:=h1.symm.trans hσ;cases this;rfl
  subst e1;obtain⟨k1,k2,k3⟩:=hc.rat h2 h3;refine(h n1 _ w A vs (hR rfl) h2 (by simpa using k2) k3 k1 ((Qln ha).1 hv)).mono ?_;rintro e w' ⟨rfl,hp⟩;obtain⟨us,p1,p2⟩:=hp.cells (hR rfl);exact⟨_,rfl,⟨n1,hσ,rfl⟩,hp.1,us,p1,(Qif hr).2 p2⟩⟩
def frR{L:List GF}(key:Nat)(cs:List AC)(q:Rat)(i:Nat){f:FuncId}(ent:Tr.Enters prog f)(hc:Kkr L cs=some (rq q):=by kernel_rfl)(hi:AC.lk L (.sym i)=some (gr q):=by kernel_rfl):GC prog L true :=
 ⟨{ f,args:=[],res:=.r (.c (.sym i)),frz:=some (key,⟨cs,232,none⟩) },ent,fun σ w A n vs hR hn ho=>by
  obtain⟨s1,s2,rfl,h1,h2⟩:=Kja ((Qif hc).1 ho);exact(AC.lk_ok (σ:=σ) (x:=.sym i) hi).2 (Udr hn (fun h=>h.2 rfl) (h1.sub (fun _ h=>h.1)) (h2.sub (fun _ h=>h.1)))⟩
def Qbw{L:List GF}{f:FuncId}(ent:Tr.Enters prog f):GC prog L true :=
 ⟨{ f,args:=[],res:=.junk,frz:=some (1000000,⟨[],0,none⟩) },ent,fun _ _ _ _ _ _ _ _=>trivial⟩
section
variable{L:List GF}
def Qqi(x y:Rat){k l:Nat}(hx:RL x k)(hy:RL y l)(hb:k+l<137438953472)(b:Nat)(cs:List AC)(ay:AR)(cs':List AC)(hc:RC L cs x)(ha:Kda L [ay]=some [.c (gr y)]:=by kernel_rfl)(hr:Kkr L cs'=some (rq (x+y)):=by kernel_rfl):GC prog L true :=
 Uzo eo186 b cs true [ay] cs' x (x+y) [.c (gr y)] hc (fun m C w A vs hA hm h4 hC hx' hu=>by
  match vs,hu with
  | [v],hu=>exact Qkq m C x y _ v NoA w hm h4 hC hx' hu.1.noA k l hx hy hb) ha hr
def Uqa(x:Rat)(hx:RL x 137438953472)(b:Nat)(cs cs':List AC)(hc:RC L cs x)(hr:Kkr L cs'=some (rq (-x)):=by kernel_rfl):GC prog L true :=
 Uzo eo187 b cs true [] cs' x (-x) [] hc (fun m C w A vs hA hm h4 hC hx' hu=>by
  match vs,hu with
  | [],_=>exact Qxa m C x _ NoA w hm h4 hC hx' hx) rfl hr
end
end Go.Proofs.YtmimficdpfmfgaaGreat
namespace Go.Proofs.YtmimficdpfmfgaaGreat
open Go.RowKit Tr Proofs.Tryz
def Ubd{q:Rat}(hq:q<0):decide (q.num<0)=true:=by
 have:=mt Rat.num_nonneg.1 (Rat.not_le.2 hq);exact decide_eq_true (by omega)
def Ubc{q:Rat}(hq:0<=q):decide (q.num<0)=false:=by
 have:=Rat.num_nonneg.2 hq;exact decide_eq_false (by omega)
def Kix(q:Rat)(hq:q<0)(vx:Value)(A:Nat->Prop)(w:World)(hx:Qbk q vx w A) :
  Calls prog 192 #[vx] w fun e w'=>e=.returned (.tuple #[.pointer none,.bool false])/\Below w.heap.size w w':=by
 have hs:=Ubd hq;have HS:=hid (Qgx q vx A w hx);obtain⟨b,rfl⟩:=hx.shape
 go_enter func192,Tryz.ntmps192
 go_wp2_with fail
 refine HS.out.mono ?_;rintro e w' ⟨rfl,rfl⟩
 go_wp2_with fail
 refine bodyPost_ret (v:=.tuple #[.pointer none,.bool false]) (by simp[results,Tryz.results192,go_sem]) rfl ?_;exact⟨rfl,Below.refl _ _⟩
def Kiz(q:Rat)(hq:0<=q)(R D:Nat)(r1:R*R<=q.num.natAbs)(r2:q.num.natAbs<(R+1)*(R+1))(d1:D*D<=q.den)(d2:q.den<(D+1)*(D+1))(hD:D≠0)(r:Bool)(hr:r=true↔Rat.divInt R D*Rat.divInt R D=q)
  (vx:Value) (A:Nat->Prop) (w:World) (hx:Qbk q vx w A) (hA:Rcv A w) (k:Nat) (hl:RL q k) (hk:k<=134217728) :
  Calls prog 192 #[vx] w fun e w'=>∃ m,e=.returned (.tuple #[.pointer (some ⟨m,0,none⟩),.bool r])/\Below w.heap.size w w'/\Kxq w.heap.size (Rat.divInt R D) (.pointer (some ⟨m,0,none⟩)) w' A:=by
 have hs:=Ubc hq;have HS:=hid (Qgx q vx A w hx);obtain⟨b,rfl⟩:=hx.shape;have lR:(Qac R).length<=k:=Qfc (axw (Nat.le_mul_self R) r1) hl.1;have lD:(Qac D).length<=k:=Qfc (axw (Nat.le_mul_self D) d1) hl.2;have HX:=hid (And.intro hx hA);have HQ:=hid (And.intro (Int.natAbs_of_nonneg (Rat.num_nonneg.2 hq)) (And.intro hl hr));clear hx hA hr hq hl
 go_enter func192,Tryz.ntmps192
 go_wp2_with fail
 refine HS.out.mono ?_;rintro e w' ⟨rfl,rfl⟩
 go_wp2_with fail
 obtain⟨w1,hw1⟩:∃ w1,w1=w.alloc (.cells #[.bool false,.slice none 0 0] 230):=⟨_,rfl⟩
 have hb1:Below w.heap.size w w1:=by rw[hw1];exact br.alloc lr _
 have hs1:w1.heap.size=w.heap.size+1:=by rw[hw1];simp
 have hn1:w1.heap[w.heap.size]?=some (.cells #[.bool false,.slice none 0 0] 230 (0,0)):=by rw[hw1];exact heap_alloc_new w _
 rw[<-hw1];have H1:=hid (And.intro hw1 (And.intro hb1 hn1));clear hw1 hb1 hn1;refine(Qwz q _ A w1 (HX.out.1.below H1.out.2.1) (HQ.out.2.1.mono (by omega))).mono ?_;rintro e w2 ⟨v2,rfl,hv2⟩;have H2:=hid hv2;clear hv2
 go_wp2_with fail
 have hm2:w2.heap[w.heap.size]?=some (.cells #[.bool false,.slice none 0 0] 230 (0,0)):=(H2.out.1.block _ (by omega)).trans H1.out.2.2;have hi2:Qce (q.num.natAbs:Int) v2 w2 NoA:=by rw[HQ.out.1];exact H2.out.2 NoA (Qbt _)
 refine(Kgp w.heap.size 0 _ _ q.num.natAbs R r1 r2 v2 NoA w2 hm2 (by decide) Qbi hi2 (by have:=HQ.out.2.1.1;omega)).mono ?_;rintro e w3 ⟨rfl,hp3⟩;have hs2:=H2.out.1.size;have hb3:Below w.heap.size w w3:=H1.out.2.1.trans ((H2.out.1.mono (by omega)).trans (hp3.1.below lr (by omega)));have h3:Qce (R:Int) (.pointer (some ⟨w.heap.size,0,none⟩)) w3 NoA:=(hp3.intP (by decide) (Qbt _)).noA;have hs3:=hp3.1.size;have H3:=hid (And.intro hb3 h3);clear hp3 hm2 hi2 hb3 h3
 go_wp2_with fail
 obtain⟨w4,hw4⟩:∃ w4,w4=w3.alloc (.cells #[.bool false,.slice none 0 0] 230):=⟨_,rfl⟩
 have hb4:Below w3.heap.size w3 w4:=by rw[hw4];exact br.alloc lr _
 have hs4:w4.heap.size=w3.heap.size+1:=by rw[hw4];simp
 have hn4:w4.heap[w3.heap.size]?=some (.cells #[.bool false,.slice none 0 0] 230 (0,0)):=by rw[hw4];exact heap_alloc_new w3 _
 rw[<-hw4];have H4:=hid (And.intro hw4 (And.intro hb4 hn4));clear hw4 hb4 hn4;have hbw4:=H3.out.1.trans (H4.out.2.1.mono (by omega));refine(Qmj q _ A w4 (HX.out.1.below hbw4) (HQ.out.2.1.mono (by omega))).mono ?_;rintro e w5 ⟨v5,rfl,hv5⟩;have H5:=hid hv5;clear hv5 hbw4
 go_wp2_with fail
 have hm5:w5.heap[w3.heap.size]?=some (.cells #[.bool false,.slice none 0 0] 230 (0,0)):=(H5.out.1.block _ (by omega)).trans H4.out.2.2;refine(Kgp w3.heap.size 0 _ _ q.den D d1 d2 v5 NoA w5 hm5 (by decide) Qbi (H5.out.2 NoA (Qbt _)) (by have:=HQ.out.2.1.2;omega)).mono ?_;rintro e w6 ⟨rfl,hp6⟩;have hs5:=H5.out.1.size;have hb6:Below w3.heap.size w3 w6:=H4.out.2.1.trans ((H5.out.1.mono (by omega)).trans (hp6.1.below lr (by omega)));have h6:Qce (D:Int) (.pointer (some ⟨w3.heap.size,0,none⟩)) w6 NoA:=(hp6.intP (by decide) (Qbt _)).noA;have hs6:=hp6.1.size;have H6:=hid (And.intro hb6 (And.intro h6 (H3.out.2.below hb6)));clear hp6 hm5 hb6 h6
 go_wp2_with fail
 obtain⟨w7,hw7⟩:∃ w7,w7=w6.alloc zR:=⟨_,rfl⟩
 have hb7:Below w6.heap.size w6 w7:=by rw[hw7];exact br.alloc lr _
 have hs7:w7.heap.size=w6.heap.size+1:=by rw[hw7];simp
 have hn7:w7.heap[w6.heap.size]?=some zR:=by rw[hw7];exact heap_alloc_new w6 _
 rw[<-hw7];have H7:=hid (And.intro hw7 (And.intro hb7 hn7));clear hw7 hb7 hn7;refine(Qez w6.heap.size _ R D (by omega) _ _ NoA w7 H7.out.2.2 (by decide) Qdg (H6.out.2.2.below H7.out.2.1) (H6.out.2.1.below H7.out.2.1) (by rw[axs];omega) (by rw[axs];omega)).mono ?_;rintro e w8 ⟨rfl,hp8⟩;have hs8:=hp8.1.size;have hb8:Below w.heap.size w w8:=H3.out.1.trans ((H6.out.1.mono (by omega)).trans ((H7.out.2.1.mono (by omega)).trans (hp8.1.below (by omega) (by omega))));have hA8:Rcv A w7:=HX.out.2.below (H3.out.1.trans ((H6.out.1.mono (by omega)).trans (H7.out.2.1.mono (by omega))));have h8:Kxq w.heap.size (Rat.divInt R D) (.pointer (some ⟨w6.heap.size,0,none⟩)) w8 A:=Kxq.keeps _ _ _ _ _ _ _ lr (fun b _ hna=>⟨rfl,fun h=>hna (.inr h)⟩) (hp8.ratB hA8 (Qbt _) (by omega) (fun b hb=>HX.out.2.lt hb));have H8:=hid (And.intro hb8 (And.intro h8 (hp8.ratP (Qbt _)).noA));clear hp8 hb8 h8 hA8
 go_wp2_with fail
 have lS:RL (Rat.divInt R D) k:=Qjz (by omega) (by rw[axs];exact lR) (by rw[axs];exact lD);refine(Qgt (Rat.divInt R D) (Rat.divInt R D) _ _ NoA w8 (.inr H8.out.2.2) (.inr H8.out.2.2) (Qbt _) k k lS lS (by omega)).mono ?_;rintro e w10 ⟨u10,rfl,hb10,hp10⟩;have H10:=hid (And.intro hb10 hp10);clear hp10 hb10
 go_wp2_with fail
 obtain⟨cz,hcz,hcr⟩:∃ cz,cz=Qig (Rat.divInt R D*Rat.divInt R D) q/\(cz==0)=r:=by
  refine⟨_,rfl,?_⟩;rw[Bool.eq_iff_iff,HQ.out.2.2,beq_iff_eq];unfold Qig;constructor
  .intro h
   split at h
   .cases h
   .split at h
    .assumption
    .cases h
  .intro h;rw[h,if_neg (Rat.lt_irrefl),if_pos rfl]
 have hc:=Kgl (Rat.divInt R D*Rat.divInt R D) q _ _ NoA w10 H10.out.2 (HX.out.1.below (H8.out.1.trans (H10.out.1.mono H8.out.1.size))).noA (k+k) k (Qad lS lS) HQ.out.2.1 (by omega);rw[<-hcz] at hc;have HC:=hid (And.intro hc hcr);clear hc hcz hcr;refine HC.out.1.mono ?_;rintro e w11 ⟨rfl,hb11⟩;have H11:=hid hb11;clear hb11
 go_wp2_with fail
 rw[HC.out.2];refine bodyPost_ret (v:=.tuple #[.pointer (some ⟨w6.heap.size,0,none⟩),.bool r]) (by simp[results,Tryz.results192,go_sem]) rfl ?_;have hb11:=H10.out.1.trans (H11.out.mono H10.out.1.size);exact⟨_,rfl,H8.out.1.trans (hb11.mono H8.out.1.size),Qcq.Keeps.below (Kxq.keeps _ _) hb11 H8.out.2.1⟩
def Uay(q:Rat)(r:Bool)(hr:r=true↔Qer q)(vx:Value)(A:Nat->Prop)(w:World)(hx:Qbk q vx w A)(hA:Rcv A w)(k:Nat)(hl:RL q k)(hk:k<=134217728) :
  Calls prog 192 #[vx] w fun e w'=>∃ u,e=.returned (.tuple #[u,.bool r])/\Below w.heap.size w w'/\(r=true->Kxq w.heap.size (sqr q) u w' A):=by
 by_cases h0:0<=q
 .obtain⟨R,r1,r2⟩:=Qov q.num.natAbs;obtain⟨D,d1,d2⟩:=Qov q.den;obtain⟨e1,e2,e3⟩:=Qtf h0 r1 r2 d1 d2;refine(Kiz q h0 R D r1 r2 d1 d2 e2 r (hr.trans ⟨fun h=>?_,fun h=>⟨_,Rat.divInt_nonneg (Int.natCast_nonneg R) (Int.natCast_nonneg D),h⟩⟩) vx A w hx hA k hl hk).mono ?_
  .rw[<-(e3 h).1];exact(Qhi h).2
  .rintro e w' ⟨m,rfl,hb,h1⟩;exact⟨_,rfl,hb,fun h=>by rw[(e3 (hr.1 h)).1];exact h1⟩
 .have hn:¬Qer q:=fun⟨s,h2,h3⟩=>h0 (h3▸Rat.mul_nonneg h2 h2)
  have e:r=false:=by cases r;rfl;exact absurd (hr.1 rfl) hn
  subst e;exact(Kix q (Rat.not_le.1 h0) vx A w hx).mono fun e w' ⟨h1,h2⟩=>⟨_,h1,h2,fun h=>by cases h⟩
