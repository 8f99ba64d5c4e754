/- Laws for the walk. -/
import Derived.Test.YtmimficdpfmfgaaGreatUas
set_option linter.unusedVariables false
set_option maxHeartbeats 4000000
set_option maxRecDepth 100000
namespace Tr
open Go Go.RowKit
section
variable{P:Program}{L:List GF}
def isIndex(t:TypeId)(o:Oper):Bool:=match o.op with|.index u _ _=>u == t|_=>false
def isConv(s d:TypeId)(o:Oper):Bool:=match o.op with|.convert a b _=>a == s && b == d|_=>false
def isNeg(o:Oper):Bool:=match o.op with|.unOp .neg _ _=>true|_=>false
def isLen(t:TypeId)(o:Oper):Bool:=match o.op with|.call c=>(match c.callee with|.builtin .len=>(match c.argTypes.toList,c.args.toList with|[u],[_]=>u == t|_,_=>false)|_=>false)|_=>false
def goIndex(t:TypeId)(x i:AR)(res:AC){vx vi v:Value}(h:∀ w,(Instr.index t vx vi).run P w=.ok v w)(hx:x.gv L=some vx:=by rfl)(hi:i.gv L=some vi:=by rfl)(hr:res.gv L=some v:=by rfl):GO P L :=
 ⟨{ same:=isIndex t,args:=[x,i],res:=.r (.c res) },fun o ho σ ρ w A ha=>by
  obtain⟨dst,op,ty,pos,after,guard⟩:=o
  unfold isIndex at ho
  cases op<;>simp at ho
  subst ho
  rename_i a b
  have h1:ρ a=vx:=(AR.gv_ok hx).1 ha.1
  have h2:ρ b=vi:=(AR.gv_ok hi).1 ha.2.1
  exact⟨v,by simp[execOp,h1,h2,h w],(AC.gv_ok hr).2 rfl⟩⟩
def goConv(s d:TypeId)(x:AR)(res:AC){vx v:Value}(h:∀ w,(convert s d vx).run P w=.ok v w)(hx:x.gv L=some vx:=by rfl)(hr:res.gv L=some v:=by rfl):GO P L :=
 ⟨{ same:=isConv s d,args:=[x],res:=.r (.c res) },fun o ho σ ρ w A ha=>by
  obtain⟨dst,op,ty,pos,after,guard⟩:=o
  unfold isConv at ho
  cases op<;>simp at ho
  obtain⟨rfl,rfl⟩:=ho
  rename_i a
  have h1:ρ a=vx:=(AR.gv_ok hx).1 ha.1
  exact⟨v,by simp[execOp,h1,h w],(AC.gv_ok hr).2 rfl⟩⟩
def goNeg(x:AR)(res:AC){vx v:Value}(h:∀ w,(Op.unary .neg vx).run P w=.ok v w)(hx:x.gv L=some vx:=by rfl)(hr:res.gv L=some v:=by rfl):GO P L :=
 ⟨{ same:=isNeg,args:=[x],res:=.r (.c res) },fun o ho σ ρ w A ha=>by
  obtain⟨dst,op,ty,pos,after,guard⟩:=o
  unfold isNeg at ho
  cases op<;>simp at ho
  rename_i u t a
  cases u<;>simp at ho
  have h1:ρ a=vx:=(AR.gv_ok hx).1 ha.1
  exact⟨v,by simp[execOp,h1,h w],(AC.gv_ok hr).2 rfl⟩⟩
def goLenG(t:TypeId)(x:AR)(res:AC){v:Value}(h:∀(w:World) (A:Nat→Prop) (u:Value) (ty:TypeId),x.ok (gT L) σ0 u w A→(Builtin.len_ #[t] ty #[u]).run P w=.ok v w)(hx:x.noown=true:=by rfl)(hr:res.gv L=some v:=by rfl):GO P L :=
 ⟨{ same:=isLen t,args:=[x],res:=.r (.c res) },fun o ho σ ρ w A ha=>by
  obtain⟨dst,op,ty,pos,after,guard⟩:=o
  unfold isLen at ho
  cases op<;>simp only[Bool.false_eq_true] at ho
  rename_i c
  obtain⟨callee,args,ats⟩:=c
  cases callee<;>simp only[Bool.false_eq_true] at ho
  rename_i b
  cases b<;>simp only[Bool.false_eq_true] at ho
  split at ho
  ·rename_i u y h1 h2
   have e1:ats=#[t]:=by apply Array.toList_inj.1; rw[h1]; simpa using ho
   have e2:args=#[y]:=by apply Array.toList_inj.1; rw[h2]
   subst e1; subst e2
   have h3:=h w A (ρ y) ty (AR.ok_noown hx ha.1)
   exact⟨v,by simp[execOp,resolve,invoke,builtin,h3],(AC.gv_ok hr).2 rfl⟩
  ·cases ho⟩
theorem toList_emp(a:ByteArray):(a.toList == (⟨#[]⟩:ByteArray).toList)=decide (a=⟨#[]⟩):=by
 have h0:(⟨#[]⟩:ByteArray).toList=[]:=(toList_nil_iff_emptyBytes _).2 rfl
 rw[h0,Bool.eq_iff_iff]
 simp only[beq_iff_eq,decide_eq_true_eq]
 exact toList_nil_iff_emptyBytes a
theorem str_eql(t:TypeId)(a:ByteArray)(c:Bool)(hc:decide (a=⟨#[]⟩)=c):∀(xo yo:Operand) (w:World),(do eqGuard .eql t xo yo (.string a) (.string ⟨#[]⟩); binOp .eql t (.string a) (.string ⟨#[]⟩):Sem Value).run P w=.ok (.bool c) w:=by
 intro xo yo w
 rw[←hc,←toList_emp]
 simp[eqGuard,binOp,Op.stringOp]
theorem str_neq(t:TypeId)(a:ByteArray)(c:Bool)(hc:decide (a=⟨#[]⟩)=!c):∀(xo yo:Operand) (w:World),(do eqGuard .neq t xo yo (.string a) (.string ⟨#[]⟩); binOp .neq t (.string a) (.string ⟨#[]⟩):Sem Value).run P w=.ok (.bool c) w:=by
 intro xo yo w
 rw[←toList_emp] at hc
 have:c=!(a.toList == (⟨#[]⟩:ByteArray).toList):=by rw[hc]; simp
 rw[this]
 simp[eqGuard,binOp,Op.stringOp]
theorem eqGuard_bool(op:BinOp)(t:TypeId)(xo yo:Operand)(a b:Bool)(w:World):(eqGuard op t xo yo (.bool a) (.bool b)).run P w=.ok () w:=by
 cases op<;>rfl
theorem bool_eql{t:TypeId}(ht:P.underlying t=some .bool)(a b c:Bool)(hc:(a == b)=c):∀(xo yo:Operand) (w:World),(do eqGuard .eql t xo yo (.bool a) (.bool b); binOp .eql t (.bool a) (.bool b):Sem Value).run P w=.ok (.bool c) w:=by
 intro xo yo w
 have e:binOp .eql t (.bool a) (.bool b)=(do pure (.bool (←Op.equal t (.bool a) (.bool b)))):=rfl
 rw[Sem.run_bind,eqGuard_bool,Result.andThen_ok,e,Sem.run_bind,run_equal_bool _ t a b ht,Result.andThen_ok,hc]
 rfl
theorem bool_neq{t:TypeId}(ht:P.underlying t=some .bool)(a b c:Bool)(hc:(a != b)=c):∀(xo yo:Operand) (w:World),(do eqGuard .neq t xo yo (.bool a) (.bool b); binOp .neq t (.bool a) (.bool b):Sem Value).run P w=.ok (.bool c) w:=by
 intro xo yo w
 have e:binOp .neq t (.bool a) (.bool b)=(do pure (.bool (!(←Op.equal t (.bool a) (.bool b))))):=rfl
 rw[Sem.run_bind,eqGuard_bool,Result.andThen_ok,e,Sem.run_bind,run_equal_bool _ t a b ht,Result.andThen_ok]
 rw[←hc]
 rfl
def Qdn(op:BinOp)(a b:Int):Option Bool:=match op with
 | .eql=>some (a == b)|.neq=>some (a != b)|.lss=>some (decide (a<b))|.leq=>some (decide (a≤b))|.gtr=>some (decide (a>b))|.geq=>some (decide (a≥b))|_=>none
theorem int_cmp(op:BinOp)(t:TypeId)(k:IntKind)(a b:Int)(c:Bool)(hc:Qdn op a b=some c):∀(xo yo:Operand) (w:World),(do eqGuard op t xo yo (.int k a) (.int k b); binOp op t (.int k a) (.int k b):Sem Value).run P w=.ok (.bool c) w:=by
 intro xo yo w
 cases op<;>simp only[Qdn,Option.some.injEq] at hc<;>first|(cases hc; done)|(subst hc; simp[eqGuard,binOp,Op.intCmp])
def gbInt(op:BinOp)(t:TypeId)(k:IntKind)(x y:AC)(a b:Int)(c:Bool)(h:Qdn op a b=some c)(hx:x.gv L=some (.int k a):=by rfl)(hy:y.gv L=some (.int k b):=by rfl):GB P L:=gb op t (.c x) (.c y) (.lit (.bool c)) (int_cmp op t k a b c h) hx hy rfl
def Qen(t:TypeId)(ht:P.underlying t=some .bool)(a b:Bool):GB P L:=gb .neq t (.c (.lit (.bool a))) (.c (.lit (.bool b))) (.lit (.bool (a != b))) (bool_neq ht a b _ rfl) rfl rfl rfl
end
end Tr
namespace Go.Proofs.YtmimficdpfmfgaaGreat
open Go.RowKit Tr
theorem strN_emp{n:Nat}:decide (Qcf n=⟨#[]⟩)=decide (n=0):=by
 by_cases h:n=0
 ·subst h; simp[Qcf,Qcr]
 ·have h1:Qcf n≠⟨#[]⟩:=fun e=>by
   have h2:=Qfe n
   rw[e] at h2
   have h3:(Qcz n).length=0:=h2.symm
   rw[Qdh (by omega)] at h3
   simp at h3
  simp[h,h1]
def gbEmp{P:Program}{L:List GF}(t:TypeId)(i n:Nat)(c:Bool)(h:decide (n=0)=c)(hx:(AC.sym i).gv L=some (.string (Qcf n)):=by rfl):GB P L:=gb .eql t (.c (.sym i)) (.c (.lit .str0)) (.lit (.bool c)) (str_eql t (Qcf n) c (by rw[strN_emp]; exact h)) hx rfl rfl
def gbNemp{P:Program}{L:List GF}(t:TypeId)(i n:Nat)(c:Bool)(h:decide (n=0)=!c)(hx:(AC.sym i).gv L=some (.string (Qcf n)):=by rfl):GB P L:=gb .neq t (.c (.sym i)) (.c (.lit .str0)) (.lit (.bool c)) (str_neq t (Qcf n) c (by rw[strN_emp]; exact h)) hx rfl rfl
def gbEmp0{P:Program}{L:List GF}(t:TypeId):GB P L:=gb .eql t (.c (.lit .str0)) (.c (.lit .str0)) (.lit (.bool true)) (str_eql t ⟨#[]⟩ true (by simp)) rfl rfl rfl
theorem encZ_neg{z:Int}(h:z<0):Qdy z=.agg #[.bool true,.string (Qcf z.natAbs)]:=by unfold Qdy; simp[h]
theorem encZ_pos{z:Int}(h:0≤z):Qdy z=.agg #[.bool false,.string (Qcf z.natAbs)]:=by unfold Qdy; simp; omega
theorem ssign(z:Int):PureC Tryz.prog 193 [Qdy z] (.int .i64 z.sign):=by
 rcases Int.lt_trichotomy z 0 with h|h|h
 ·rw[encZ_neg h,Int.sign_eq_neg_one_of_neg h]
  exact Qaz (hp:=false) (L:=[gx (.string (Qcf z.natAbs))]) Qad Qag [] [gbEmp 9 0 z.natAbs false (by simp; omega)] []
   Tryz.func193 60 [.row [.lit (.bool true),.sym 0]] (.r (.c (.lit (.int .i64 (-1))))) (by kernel_rfl)
 ·subst h
  rw[encZ_zero]
  exact Qaz (hp:=false) (L:=[]) Qad Qag [] [gbEmp0 9] [] Tryz.func193 60 [.row [.lit (.bool false),.lit .str0]] (.r (.c (.lit (.int .i64 0)))) (by kernel_rfl)
 ·rw[encZ_pos (by omega),Int.sign_eq_one_of_pos h]
  exact Qaz (hp:=false) (L:=[gx (.string (Qcf z.natAbs))]) Qad Qag [] [gbEmp 9 0 z.natAbs false (by simp; omega)] []
   Tryz.func193 60 [.row [.lit (.bool false),.sym 0]] (.r (.c (.lit (.int .i64 1)))) (by kernel_rfl)
theorem sformed(neg:Bool)(s:ByteArray)(b:Bool)(hb:b=true↔WForm neg s):PureC Tryz.prog 233 [.agg #[.bool neg,.string s]] (.bool b):=by
  by_cases h0:s.size=0
  · have e : s = ⟨#[]⟩ := by
      cases s with|mk d=>have:d=#[]:=Array.eq_empty_of_size_eq_zero h0; rw[this]
    subst e
    have e2:b=!neg:=by
      rw[Bool.eq_iff_iff,hb]
      constructor
      · intro h; have:=h.1 h0; simp[this]
      · intro h; simp at h; exact⟨fun _=>h,fun x l e=>by cases e⟩
    subst e2
    cases neg
    · exact Qaz (hp:=false) (L:=[]) Qad Qag [] [gbEmp0 9] [] Tryz.func233 60 [.row [.lit (.bool false),.lit .str0]] (.r (.c (.lit (.bool true)))) (by kernel_rfl)
    · exact Qaz (hp:=false) (L:=[]) Qad Qag [] [gbEmp0 9] [] Tryz.func233 60 [.row [.lit (.bool true),.lit .str0]] (.r (.c (.lit (.bool false)))) (by kernel_rfl)
  · have hs:0<s.size:=by omega
    have e2:b=!((s[0].toNat:Int) == 0):=by
      rw[Bool.eq_iff_iff,hb]
      obtain⟨x,l,hx⟩:∃ x l,s.data.toList=x :: l:=by
        cases hq:s.data.toList with
        | nil => have h9 : s.data.size = 0 := by rw [← Array.length_toList,hq]; rfl
                 exact absurd h9 h0
        | cons x l=>exact⟨x,l,rfl⟩
      have e3:s[0]=x:=by
        have h9:s.data.toList[0]?=some x:=by rw[hx]; rfl
        have h8:s.data[0]?=some x:=by simpa using h9
        have h7:s.data[0]'hs=x:=(Array.getElem?_eq_some_iff.1 h8).2
        exact h7
      rw[e3]
      constructor
      · intro h
        have:=h.2 x l hx
        simp only[Bool.not_eq_true',beq_eq_false_iff_ne,ne_eq]
        intro e; apply this
        apply UInt8.toNat_inj.1; simp at e ⊢; omega
      · intro h
        refine⟨fun h'=>absurd h' h0,fun y m e=>?_⟩
        rw[hx] at e
        cases e
        intro e; subst e; simp at h
    exact Qaz (hp:=false) (L:=[gx (.string s),gx (.bool neg),gx (.int .u8 s[0].toNat),gx (.bool b)]) Qad Qag []
      [gb .eql 9 (.c (.sym 0)) (.c (.lit .str0)) (.lit (.bool false)) (str_eql _ s false (by simp only[decide_eq_false_iff_not]; intro e; subst e; exact h0 rfl)) rfl rfl rfl,gb .neq 5 (.c (.sym 2)) (.c (.lit (.int .u8 0))) (.sym 3) (int_cmp .neq _ .u8 _ _ _ (by rw[e2]; rfl)) rfl rfl rfl]
      [goIndex 9 (.c (.sym 0)) (.c (.lit (.int .i64 0))) (.sym 2) (fun w=>by
        show(Instr.index 9 (.string s) (.int .i64 0)).run _ w=_
        rw[run_index_string w 9 s .i64 0 Tryz.underlying9,dif_pos ⟨by omega,by omega⟩]; rfl) rfl rfl rfl]
      Tryz.func233 60 [.row [.sym 1,.sym 0]] (.r (.c (.sym 3))) (by kernel_rfl)
end Go.Proofs.YtmimficdpfmfgaaGreat
namespace Tr
open Go Go.RowKit
end Tr
namespace Go.Proofs.YtmimficdpfmfgaaGreat
open Go.RowKit Tr
def WsF(l:List Nat):Qck:=fun v w A=>WSlA A w v l
def gw(l:List Nat):GF where
 R:=WsF l
 int:=false
 keeps:=fun v w w' A A' hs hk h=>WSlA.keep hs hk h
 cell:=fun v w A ⟨p,c,e,_⟩=>by rw[e]; rfl
 noint:=fun _ v w A ⟨p,c,e,_⟩ k x e2=>by rw[e] at e2; cases e2
 ex:=none
 exact:=fun u e=>by cases e
def WL(n k:Nat):Prop:=(Qac n).length≤k
theorem WL.mono{n j k:Nat}(h:WL n j)(hk:j≤k):WL n k:=Nat.le_trans h hk
theorem WL.size{n k:Nat}(h:WL n k):(Qcf n).size≤4*k:=by
 rw[Qfe]
 refine byteLE_le (Nat.lt_of_lt_of_le (Qbz n) ?_)
 rw[show(256:Nat) ^ (4*k)=4294967296 ^ k by rw[Nat.pow_mul]]
 exact Nat.pow_le_pow_right (by decide) h
theorem Qcy(n:Nat)(hn:WL n 1073741824)(w:World)(A:Nat→Prop)(u:Value)(hR:true=true→Rcv A w)(hu:u=.string (Qcf n)) :
  Calls Tryz.prog 236 #[u] w fun r w'=>∃ v,r=.returned v∧WsF (Qac n) v w' A∧Below w.heap.size w w':=by
 subst hu
 exact(swords_any n (by have:=hn.size; omega) w).mono fun e w' ⟨v,h1,h2,h3⟩=>⟨v,h1,h2.avoids ((hR rfl).below h3),h3⟩
theorem gMade(neg:Bool)(n:Nat)(hn:WL n 8589934592)(w:World)(A:Nat→Prop)(u v:Value)(hR:true=true→Rcv A w)(hu:u=.bool neg)(hv:WsF (Qac n) v w A) :
  Calls Tryz.prog 220 #[u,v] w fun r w'=>r=.returned (Qdy (sgn neg n))∧Below w.heap.size w w':=by
 subst hu
 have:=smade_any neg (Qac n) v w (Qan n) hv.wsl (by have h1:(Qac n).length≤8589934592:=hn; omega)
 rw[Qam] at this
 exact this
theorem gMore(a b:Nat)(ha:WL a 8589934592)(hb:WL b 8589934592)(w:World)(A:Nat→Prop)(u v:Value)(hR:true=true→Rcv A w)(hu:WsF (Qac a) u w A)(hv:WsF (Qac b) v w A) :
  Calls Tryz.prog 258 #[u,v] w fun r w'=>∃ v,r=.returned v∧WsF (Qac (a+b)) v w' A∧Below w.heap.size w w':=by
 have h1:(Qac a).length≤8589934592:=ha
 have h2:(Qac b).length≤8589934592:=hb
 have:=smore_any (Qac a) (Qac b) u v w (Qan a) (Qan b) hu.wsl hv.wsl (by omega) (by omega)
 rw[Qam,Qam] at this
 exact this.mono fun e w' ⟨v,h1,h2,h3⟩=>⟨v,h1,h2.avoids ((hR rfl).below h3),h3⟩
theorem gLess(a b:Nat)(hba:b≤a)(ha:WL a 8589934592)(w:World)(A:Nat→Prop)(u v:Value)(hR:true=true→Rcv A w)(hu:WsF (Qac a) u w A)(hv:WsF (Qac b) v w A) :
  Calls Tryz.prog 259 #[u,v] w fun r w'=>∃ v,r=.returned v∧WsF (Qac (a - b)) v w' A∧Below w.heap.size w w':=by
 have h1:(Qac a).length≤8589934592:=ha
 have hl:(Qac b).length≤(Qac a).length:=Qaj (Nat.lt_of_le_of_lt hba (Qbz a))
 have:=sless_any (Qac a) (Qac b) u v w (Qan a) (Qan b) (by rw[Qam,Qam]; exact hba) hl hu.wsl hv.wsl (by omega)
 rw[Qam,Qam] at this
 exact this.mono fun e w' ⟨v,h1,h2,h3⟩=>⟨v,h1,h2.avoids ((hR rfl).below h3),h3⟩
theorem gUnder(a b:Nat)(ha:WL a 8589934592)(w:World)(A:Nat→Prop)(u v:Value)(hR:true=true→Rcv A w)(hu:WsF (Qac a) u w A)(hv:WsF (Qac b) v w A) :
  Calls Tryz.prog 235 #[u,v] w fun r w'=>r=.returned (.int .i64 (Qeo a b))∧Below w.heap.size w w':=by
 have h1:(Qac a).length≤8589934592:=ha
 exact(Qhv a b u v w hu.wsl hv.wsl (by omega)).mono fun e w' ⟨h1,n,h2⟩=>⟨h1,by rw[h2]; exact Qbq br n⟩
theorem gProduct(a b:Nat)(ha:WL a 8589934592)(hb:WL b 8589934592)(w:World)(A:Nat→Prop)(u v:Value)(hR:true=true→Rcv A w)(hu:WsF (Qac a) u w A)(hv:WsF (Qac b) v w A) :
  Calls Tryz.prog 237 #[u,v] w fun r w'=>∃ v,r=.returned v∧WsF (Qac (a*b)) v w' A∧Below w.heap.size w w':=by
 have h1:(Qac a).length≤8589934592:=ha
 have h2:(Qac b).length≤8589934592:=hb
 have:=sproduct_any (Qac a) (Qac b) u v w (Qan a) (Qan b) hu.wsl hv.wsl (by omega) (by omega)
 rw[Qam,Qam] at this
 exact this.mono fun e w' ⟨v,h1,h2,h3⟩=>⟨v,h1,h2.avoids ((hR rfl).below h3),h3⟩
theorem gDivided(a b:Nat)(hb0:0<b)(ha:WL a 8589934592)(w:World)(A:Nat→Prop)(u v:Value)(hR:true=true→Rcv A w)(hu:WsF (Qac a) u w A)(hv:WsF (Qac b) v w A) :
  Calls Tryz.prog 272 #[u,v] w fun r w'=>∃ v1 v2,r=.returned (.tuple #[v1,v2])∧WsF (Qac (a / b)) v1 w' A∧WsF (Qac (a % b)) v2 w' A∧Below w.heap.size w w':=by
 have h1:(Qac a).length≤8589934592:=ha
 exact(sdivided_any a b u v w hu.wsl hv.wsl hb0 (by omega)).mono fun e w' ⟨v1,v2,h1,h2,h3,h4⟩=>⟨v1,v2,h1,h2.avoids ((hR rfl).below h4),h3.avoids ((hR rfl).below h4),h4⟩
theorem sneg(z:Int):PureC Tryz.prog 219 [Qdy z] (Qdy (-z)):=by
 rcases Int.lt_trichotomy z 0 with h|h|h
 ·rw[encZ_neg h,encZ_pos (show 0≤-z by omega),Int.natAbs_neg]
  exact Qaz (hp:=false) (L:=[gx (.string (Qcf z.natAbs))]) Qad Qag [] [] [] Tryz.func219 60 [.row [.lit (.bool true),.sym 0]] (.r (.row [.lit (.bool false),.sym 0])) (by kernel_rfl)
 ·subst h
  rw[Int.neg_zero,encZ_zero]
  exact Qaz (hp:=false) (L:=[]) Qad Qag [] [gb .neq 9 (.c (.lit .str0)) (.c (.lit .str0)) (.lit (.bool false)) (str_neq _ ⟨#[]⟩ false (by simp)) rfl rfl rfl] [] Tryz.func219 60 [.row [.lit (.bool false),.lit .str0]] (.r (.row [.lit (.bool false),.lit .str0])) (by kernel_rfl)
 ·rw[encZ_pos (show 0≤z by omega),encZ_neg (show -z<0 by omega),Int.natAbs_neg]
  exact Qaz (hp:=false) (L:=[gx (.string (Qcf z.natAbs))]) Qad Qag [] [gbNemp 9 0 z.natAbs true (by simp; omega)] [] Tryz.func219 60 [.row [.lit (.bool false),.sym 0]] (.r (.row [.lit (.bool true),.sym 0])) (by kernel_rfl)
theorem sabs(z:Int):PureC Tryz.prog 276 [Qdy z] (Qdy (z.natAbs:Int)):=by
 rw[encZ_pos (show 0≤(z.natAbs:Int) by omega),Int.natAbs_natCast]
 exact Qaz (hp:=false) (L:=[gx (.bool (decide (z<0))),gx (.string (Qcf z.natAbs))]) Qad Qag [] [] [] Tryz.func276 60 [.row [.sym 0,.sym 1]] (.r (.row [.lit (.bool false),.sym 1])) (by kernel_rfl)
def cz(z:Int):List GF:=[gx (.bool (decide (z<0))),gx (.string (Qcf z.natAbs))]
def zA(i:Nat):List AC:=[.sym i,.sym (i+1)]
theorem splus_same(neg:Bool)(a b:Nat)(ha:WL a 1073741824)(hb:WL b 1073741824):PureC Tryz.prog 218 [.agg #[.bool neg,.string (Qcf a)],.agg #[.bool neg,.string (Qcf b)]] (Qdy (sgn neg (a+b))):=by
  have hs:WL (a+b) 8589934592:=by
    have:=wl_add (k:=1073741824) ha hb
    exact Nat.le_trans this (by decide)
  exact Qaz (hp:=true) (L:=[gx (.bool neg),gx (.string (Qcf a)),gx (.string (Qcf b)),gw (Qac a),gw (Qac b),gw (Qac (a+b))]++cz (sgn neg (a+b))) Qad Qag
    [gm1 236 (.c (.sym 1)) (.r (.c (.sym 3))) eo236 (Qcy a ha),gm1 236 (.c (.sym 2)) (.r (.c (.sym 4))) eo236 (Qcy b hb),gm2 258 (.c (.sym 3)) (.c (.sym 4)) (.r (.c (.sym 5))) eo258 (gMore a b (ha.mono (by decide)) (hb.mono (by decide))),gm2x 220 (.c (.sym 0)) (.c (.sym 5)) (.r (.row (zA 6))) eo220 (gMade neg (a+b) hs)]
    [gb .eql 4 (.c (.sym 0)) (.c (.sym 0)) (.lit (.bool true)) (bool_eql Tryz.underlying4 neg neg true (by simp)) rfl rfl rfl] []
    Tryz.func218 100 [.row [.sym 0,.sym 1],.row [.sym 0,.sym 2]] (.r (.row (zA 6))) (by kernel_rfl)
theorem splus_unlike(neg:Bool)(a b:Nat)(ha:WL a 1073741824)(hb:WL b 1073741824)(hba:b≤a):PureC Tryz.prog 218 [.agg #[.bool neg,.string (Qcf a)],.agg #[.bool !neg,.string (Qcf b)]] (Qdy (sgn neg (a - b))):=by
  have hs:WL (a - b) 8589934592:=Nat.le_trans (Qev (Nat.sub_le a b) ha) (by decide)
  exact Qaz (hp:=true) (L:=[gx (.bool neg),gx (.string (Qcf a)),gx (.string (Qcf b)),gw (Qac a),gw (Qac b),gw (Qac (a - b)),gx (.bool !neg),gx (.int .i64 (Qeo a b))]++cz (sgn neg (a - b))) Qad Qag
    [gm1 236 (.c (.sym 1)) (.r (.c (.sym 3))) eo236 (Qcy a ha),gm1 236 (.c (.sym 2)) (.r (.c (.sym 4))) eo236 (Qcy b hb),gm2x 235 (.c (.sym 3)) (.c (.sym 4)) (.r (.c (.sym 7))) eo235 (gUnder a b (ha.mono (by decide))),gm2 259 (.c (.sym 3)) (.c (.sym 4)) (.r (.c (.sym 5))) eo259 (gLess a b hba (ha.mono (by decide))),gm2x 220 (.c (.sym 0)) (.c (.sym 5)) (.r (.row (zA 8))) eo220 (gMade neg (a - b) hs)]
    [gb .eql 4 (.c (.sym 0)) (.c (.sym 6)) (.lit (.bool false)) (bool_eql Tryz.underlying4 neg (!neg) false (by simp)) rfl rfl rfl,gbInt .geq 3 .i64 (.sym 7) (.lit (.int .i64 0)) (Qeo a b) 0 true (by have:=cmp_ge hba; simp[Qdn]; omega) rfl rfl] []
    Tryz.func218 100 [.row [.sym 0,.sym 1],.row [.sym 6,.sym 2]] (.r (.row (zA 8))) (by kernel_rfl)
theorem splus_unlike2(neg:Bool)(a b:Nat)(ha:WL a 1073741824)(hb:WL b 1073741824)(hab:a<b):PureC Tryz.prog 218 [.agg #[.bool neg,.string (Qcf a)],.agg #[.bool !neg,.string (Qcf b)]] (Qdy (sgn (!neg) (b - a))):=by
  have hs:WL (b - a) 8589934592:=Nat.le_trans (Qev (Nat.sub_le b a) hb) (by decide)
  exact Qaz (hp:=true) (L:=[gx (.bool neg),gx (.string (Qcf a)),gx (.string (Qcf b)),gw (Qac a),gw (Qac b),gw (Qac (b - a)),gx (.bool !neg),gx (.int .i64 (Qeo a b))]++cz (sgn (!neg) (b - a))) Qad Qag
    [gm1 236 (.c (.sym 1)) (.r (.c (.sym 3))) eo236 (Qcy a ha),gm1 236 (.c (.sym 2)) (.r (.c (.sym 4))) eo236 (Qcy b hb),gm2x 235 (.c (.sym 3)) (.c (.sym 4)) (.r (.c (.sym 7))) eo235 (gUnder a b (ha.mono (by decide))),gm2 259 (.c (.sym 4)) (.c (.sym 3)) (.r (.c (.sym 5))) eo259 (gLess b a (by omega) (hb.mono (by decide))),gm2x 220 (.c (.sym 6)) (.c (.sym 5)) (.r (.row (zA 8))) eo220 (gMade (!neg) (b - a) hs)]
    [gb .eql 4 (.c (.sym 0)) (.c (.sym 6)) (.lit (.bool false)) (bool_eql Tryz.underlying4 neg (!neg) false (by simp)) rfl rfl rfl,gbInt .geq 3 .i64 (.sym 7) (.lit (.int .i64 0)) (Qeo a b) 0 false (by have:=cmp_lt hab; simp[Qdn]; omega) rfl rfl] []
    Tryz.func218 100 [.row [.sym 0,.sym 1],.row [.sym 6,.sym 2]] (.r (.row (zA 8))) (by kernel_rfl)
theorem splus(x y:Int)(hx:WL x.natAbs 1073741824)(hy:WL y.natAbs 1073741824):PureC Tryz.prog 218 [Qdy x,Qdy y] (Qdy (x+y)):=by
 unfold Qdy
 by_cases h:decide (x<0)=decide (y<0)
 ·rw[←h]
  have:=splus_same (decide (x<0)) x.natAbs y.natAbs hx hy
  have e:sgn (decide (x<0)) (x.natAbs+y.natAbs)=x+y:=by
   unfold sgn
   by_cases hx0:x<0<;>simp[hx0] at h ⊢<;>omega
  rw[e] at this
  exact this
 ·have h':decide (y<0)=!decide (x<0):=by cases hq:decide (x<0)<;>cases hr:decide (y<0)<;>simp_all
  rw[h']
  by_cases hba:y.natAbs≤x.natAbs
  ·have:=splus_unlike (decide (x<0)) x.natAbs y.natAbs hx hy hba
   have e:sgn (decide (x<0)) (x.natAbs - y.natAbs)=x+y:=by
    unfold sgn
    by_cases hx0:x<0<;>simp[hx0] at h' ⊢<;>omega
   rw[e] at this
   exact this
  ·have:=splus_unlike2 (decide (x<0)) x.natAbs y.natAbs hx hy (by omega)
   have e:sgn (!decide (x<0)) (y.natAbs - x.natAbs)=x+y:=by
    unfold sgn
    by_cases hx0:x<0<;>simp[hx0] at h' ⊢<;>omega
   rw[e] at this
   exact this
theorem sminus(x y:Int)(hx:WL x.natAbs 1073741824)(hy:WL y.natAbs 1073741824):PureC Tryz.prog 275 [Qdy x,Qdy y] (Qdy (x - y)) :=
  Qaz (hp:=false) (L:=cz x++cz y++cz (-y)++cz (x - y)) Qad Qag
    [gp 219 [.row (zA 2)] (.r (.row (zA 4))) eo219 (sneg y) rfl rfl,gp 218 [.row (zA 0),.row (zA 4)] (.r (.row (zA 6))) eo218 (splus x (-y) hx (by rw[Int.natAbs_neg]; exact hy)) rfl rfl] [] []
    Tryz.func275 100 [.row (zA 0),.row (zA 2)] (.r (.row (zA 6))) (by kernel_rfl) rfl rfl
theorem stimes(x y:Int)(hx:WL x.natAbs 1073741824)(hy:WL y.natAbs 1073741824):PureC Tryz.prog 156 [Qdy x,Qdy y] (Qdy (x*y)):=by
  have hs:WL (x.natAbs*y.natAbs) 8589934592:=Nat.le_trans (Qfb hx hy) (by decide)
  have e:sgn (decide (x<0) != decide (y<0)) (x.natAbs*y.natAbs)=x*y:=by
    have h0:=Int.natAbs_mul x y
    rw[←h0]
    unfold sgn
    rcases Int.lt_trichotomy x 0 with h1|h1|h1<;>rcases Int.lt_trichotomy y 0 with h2|h2|h2
    · have:=Int.mul_pos_of_neg_of_neg h1 h2
      simp[h1,h2]; omega
    · subst h2; simp
    · have:=Int.mul_neg_of_neg_of_pos h1 h2
      have h3:¬y<0:=by omega
      simp[h1,h3]; omega
    · subst h1; simp
    · subst h1; simp
    · subst h1; simp
    · have:=Int.mul_neg_of_pos_of_neg h1 h2
      have h3:¬x<0:=by omega
      simp[h3,h2]; omega
    · subst h2; simp
    · have:=Int.mul_pos h1 h2
      have h3:¬x<0:=by omega
      have h4:¬y<0:=by omega
      simp[h3,h4]; omega
  have hm:=gMade (decide (x<0) != decide (y<0)) (x.natAbs*y.natAbs) hs
  rw[e] at hm
  exact Qaz (hp:=true) (L:=cz x++cz y++[gx (.bool (decide (x<0) != decide (y<0))),gw (Qac x.natAbs),gw (Qac y.natAbs),gw (Qac (x.natAbs*y.natAbs))]++cz (x*y)) Qad Qag
    [gm1 236 (.c (.sym 1)) (.r (.c (.sym 5))) eo236 (Qcy _ hx),gm1 236 (.c (.sym 3)) (.r (.c (.sym 6))) eo236 (Qcy _ hy),gm2 237 (.c (.sym 5)) (.c (.sym 6)) (.r (.c (.sym 7))) eo237 (gProduct _ _ (hx.mono (by decide)) (hy.mono (by decide))),gm2x 220 (.c (.sym 4)) (.c (.sym 7)) (.r (.row (zA 8))) eo220 hm]
    [gb .neq 4 (.c (.sym 0)) (.c (.sym 2)) (.sym 4) (bool_neq Tryz.underlying4 _ _ _ rfl) rfl rfl rfl] []
    Tryz.func156 100 [.row (zA 0),.row (zA 2)] (.r (.row (zA 8))) (by kernel_rfl) rfl rfl
end Go.Proofs.YtmimficdpfmfgaaGreat
