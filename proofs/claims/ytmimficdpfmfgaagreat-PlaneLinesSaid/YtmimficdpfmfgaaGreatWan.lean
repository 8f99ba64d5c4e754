/- Laws. -/
import Derived.Test.YtmimficdpfmfgaaGreatWam
set_option linter.all false
set_option maxHeartbeats 4000000
set_option maxRecDepth 100000
namespace Tr
open Go Go.RowKit
section
variable{P:Program}{L:List GF}
def Kqt(t:TypeId)(o:Oper):Bool:=match o.op with|.index u _ _=>u==t|_=>false
def Ucz(s d:TypeId)(o:Oper):Bool:=match o.op with|.convert a b _=>a==s&&b==d|_=>false
def Uow(o:Oper):Bool:=match o.op with|.unOp .neg _ _=>true|_=>false
def Uov(t:TypeId)(o:Oper):Bool:=match o.op with|.call c=>(match c.callee with|.builtin .len=>(match c.argTypes.toList,c.args.toList with|[u],[_]=>u==t|_,_=>false)|_=>false)|_=>false
def Uha(t:TypeId)(x i:AR)(res:AC){vx vi v:Value}(h:∀ w,(Instr.index t vx vi).run P w=.ok v w)(hx:x.gv L=some vx:=by rfl)(hi:i.gv L=some vi:=by rfl)(hr:res.gv L=some v:=by rfl):GO P L :=
 ⟨{ same:=Kqt t,args:=[x,i],res:=.r (.c res) },fun o ho σ ρ w A ha=>by
  obtain⟨dst,op,ty,pos,after,guard⟩:=o;unfold Kqt at ho;cases op<;>simp at ho;subst ho;rename_i a b;have h1:ρ a=vx:=(AR.gv_ok hx).1 ha.1;have h2:ρ b=vi:=(AR.gv_ok hi).1 ha.2.1;exact⟨v,by simp[execOp,h1,h2,h w],(AC.gv_ok hr).2 rfl⟩⟩
def Qvu(s d:TypeId)(x:AR)(res:AC){vx v:Value}(h:∀ w,(convert s d vx).run P w=.ok v w)(hx:x.gv L=some vx:=by rfl)(hr:res.gv L=some v:=by rfl):GO P L :=
 ⟨{ same:=Ucz s d,args:=[x],res:=.r (.c res) },fun o ho σ ρ w A ha=>by
  obtain⟨dst,op,ty,pos,after,guard⟩:=o;unfold Ucz at ho;cases op<;>simp at ho;obtain⟨rfl,rfl⟩:=ho;rename_i a;have h1:ρ a=vx:=(AR.gv_ok hx).1 ha.1;exact⟨v,by simp[execOp,h1,h w],(AC.gv_ok hr).2 rfl⟩⟩
def Uoo(x:AR)(res:AC){vx v:Value}(h:∀ w,(Op.unary .neg vx).run P w=.ok v w)(hx:x.gv L=some vx:=by rfl)(hr:res.gv L=some v:=by rfl):GO P L :=
 ⟨{ same:=Uow,args:=[x],res:=.r (.c res) },fun o ho σ ρ w A ha=>by
  obtain⟨dst,op,ty,pos,after,guard⟩:=o;unfold Uow at ho;cases op<;>simp at ho;rename_i u t a;cases u<;>simp at ho;have h1:ρ a=vx:=(AR.gv_ok hx).1 ha.1;exact⟨v,by simp[execOp,h1,h w],(AC.gv_ok hr).2 rfl⟩⟩
def Kar(t:TypeId)(x:AR)(res:AC){v:Value}(h:∀(w:World) (A:Nat->Prop) (u:Value) (ty:TypeId),x.ok (gT L) σ0 u w A->(Builtin.len_ #[t] ty #[u]).run P w=.ok v w)(hx:x.noown=true:=by rfl)(hr:res.gv L=some v:=by rfl):GO P L :=
 ⟨{ same:=Uov t,args:=[x],res:=.r (.c res) },fun o ho σ ρ w A ha=>by
  obtain⟨dst,op,ty,pos,after,guard⟩:=o;unfold Uov at ho;cases op<;>simp only[Bool.false_eq_true] at ho;rename_i c;obtain⟨callee,args,ats⟩:=c;cases callee<;>simp only[Bool.false_eq_true] at ho;rename_i b;cases b<;>simp only[Bool.false_eq_true] at ho
  split at ho
  .rename_i u y h1 h2;have e1:ats=#[t]:=by apply Array.toList_inj.1;rw[h1];simpa using ho
   have e2:args=#[y]:=by apply Array.toList_inj.1;rw[h2]
   subst e1;subst e2;have h3:=h w A (ρ y) ty (AR.ok_noown hx ha.1);exact⟨v,by simp[execOp,resolve,invoke,builtin,h3],(AC.gv_ok hr).2 rfl⟩
  .cases ho⟩
def Qwp(a:ByteArray):(a.toList==(⟨#[]⟩:ByteArray).toList)=decide (a=⟨#[]⟩):=by
 have h0:(⟨#[]⟩:ByteArray).toList=[]:=(toList_nil_iff_emptyBytes _).2 rfl;rw[h0,Bool.eq_iff_iff];simp only[beq_iff_eq,decide_eq_true_eq];exact toList_nil_iff_emptyBytes a
def Kfa(t:TypeId)(a:ByteArray)(c:Bool)(hc:decide (a=⟨#[]⟩)=c):∀(xo yo:Operand) (w:World),(do eqGuard .eql t xo yo (.string a) (.string ⟨#[]⟩);binOp .eql t (.string a) (.string ⟨#[]⟩):Sem Value).run P w=.ok (.bool c) w:=by
 intro xo yo w;rw[<-hc,<-Qwp];simp[eqGuard,binOp,Op.stringOp]
def Ktj(t:TypeId)(a:ByteArray)(c:Bool)(hc:decide (a=⟨#[]⟩)=!c):∀(xo yo:Operand) (w:World),(do eqGuard .neq t xo yo (.string a) (.string ⟨#[]⟩);binOp .neq t (.string a) (.string ⟨#[]⟩):Sem Value).run P w=.ok (.bool c) w:=by
 intro xo yo w;rw[<-Qwp] at hc;have:c=!(a.toList==(⟨#[]⟩:ByteArray).toList):=by rw[hc];simp
 rw[this];simp[eqGuard,binOp,Op.stringOp]
def Qpq(op:BinOp)(t:TypeId)(xo yo:Operand)(a b:Bool)(w:World):(eqGuard op t xo yo (.bool a) (.bool b)).run P w=.ok () w:=by
 cases op<;>rfl
def Qxf{t:TypeId}(ht:P.underlying t=some .bool)(a b c:Bool)(hc:(a==b)=c):∀(xo yo:Operand) (w:World),(do eqGuard .eql t xo yo (.bool a) (.bool b);binOp .eql t (.bool a) (.bool b):Sem Value).run P w=.ok (.bool c) w:=by
 intro xo yo w;have e:binOp .eql t (.bool a) (.bool b)=(do pure (.bool (←Op.equal t (.bool a) (.bool b)))):=rfl;rw[Sem.run_bind,Qpq,Result.andThen_ok,e,Sem.run_bind,run_equal_bool _ t a b ht,Result.andThen_ok,hc];rfl
def Qqu{t:TypeId}(ht:P.underlying t=some .bool)(a b c:Bool)(hc:(a != b)=c):∀(xo yo:Operand) (w:World),(do eqGuard .neq t xo yo (.bool a) (.bool b);binOp .neq t (.bool a) (.bool b):Sem Value).run P w=.ok (.bool c) w:=by
 intro xo yo w;have e:binOp .neq t (.bool a) (.bool b)=(do pure (.bool (!(←Op.equal t (.bool a) (.bool b))))):=rfl;rw[Sem.run_bind,Qpq,Result.andThen_ok,e,Sem.run_bind,run_equal_bool _ t a b ht,Result.andThen_ok];rw[<-hc];rfl
def Qil(op:BinOp)(a b:Int):Option Bool:=match op with
 | .eql=>some (a==b)|.neq=>some (a != b)|.lss=>some (decide (a<b))|.leq=>some (decide (a<=b))|.gtr=>some (decide (a>b))|.geq=>some (decide (a>=b))|_=>none
def Qxu(op:BinOp)(t:TypeId)(k:IntKind)(a b:Int)(c:Bool)(hc:Qil op a b=some c):∀(xo yo:Operand) (w:World),(do eqGuard op t xo yo (.int k a) (.int k b);binOp op t (.int k a) (.int k b):Sem Value).run P w=.ok (.bool c) w:=by
 intro xo yo w;cases op<;>simp only[Qil,Option.some.injEq] at hc<;>first|(cases hc;done)|(subst hc;simp[eqGuard,binOp,Op.intCmp])
def Qgb(op:BinOp)(t:TypeId)(k:IntKind)(x y:AC)(a b:Int)(c:Bool)(h:Qil op a b=some c)(hx:x.gv L=some (.int k a):=by rfl)(hy:y.gv L=some (.int k b):=by rfl):GB P L:=gb op t (.c x) (.c y) (.lit (.bool c)) (Qxu op t k a b c h) hx hy rfl
def Qxs(t:TypeId)(ht:P.underlying t=some .bool)(a b:Bool):GB P L:=gb .neq t (.c (.lit (.bool a))) (.c (.lit (.bool b))) (.lit (.bool (a != b))) (Qqu ht a b _ rfl) rfl rfl rfl
end
end Tr
namespace Go.Proofs.YtmimficdpfmfgaaGreat
open Go.RowKit Tr Proofs.Tryz
def Kjg{n:Nat}:decide (Qcg n=⟨#[]⟩)=decide (n=0):=by
 by_cases h:n=0
 .subst h;simp[Qcg,Qdb]
 .have h1:Qcg n≠⟨#[]⟩:=fun e=>by
   have h2:=Qfk n;rw[e] at h2;have h3:(Qds n).length=0:=h2.symm;rw[Qdx (by omega)] at h3;simp at h3
  simp[h,h1]
def Uoh{P:Program}{L:List GF}(t:TypeId)(i n:Nat)(c:Bool)(h:decide (n=0)=c)(hx:(AC.sym i).gv L=some (.string (Qcg n)):=by rfl):GB P L:=gb .eql t (.c (.sym i)) (.c (.lit .str0)) (.lit (.bool c)) (Kfa t (Qcg n) c (by rw[Kjg];exact h)) hx rfl rfl
def Uoi{P:Program}{L:List GF}(t:TypeId)(i n:Nat)(c:Bool)(h:decide (n=0)=!c)(hx:(AC.sym i).gv L=some (.string (Qcg n)):=by rfl):GB P L:=gb .neq t (.c (.sym i)) (.c (.lit .str0)) (.lit (.bool c)) (Ktj t (Qcg n) c (by rw[Kjg];exact h)) hx rfl rfl
def Kql{P:Program}{L:List GF}(t:TypeId):GB P L:=gb .eql t (.c (.lit .str0)) (.c (.lit .str0)) (.lit (.bool true)) (Kfa t ⟨#[]⟩ true (by simp)) rfl rfl rfl
def Qmv{z:Int}(h:z<0):Qdu z=.agg #[.bool true,.string (Qcg z.natAbs)]:=by unfold Qdu;simp[h]
def Qmw{z:Int}(h:0<=z):Qdu z=.agg #[.bool false,.string (Qcg z.natAbs)]:=by unfold Qdu;simp;omega
def Qyp(z:Int):PureC prog 193 [Qdu z] (.int .i64 z.sign):=by
 rcases Int.lt_trichotomy z 0 with h|h|h
 .rw[Qmv h,axo h];exact Qaw (hp:=false) (L:=[gx (.string (Qcg z.natAbs))]) Qae Qai [] [Uoh 9 0 z.natAbs false (by simp;omega)] []
   func193 60 [.row [.lit (.bool true),.sym 0]] (.r (.c (.lit (.int .i64 (-1))))) kR
 .subst h;rw[Qrx];exact Qaw (hp:=false) (L:=[]) Qae Qai [] [Kql 9] [] func193 60 [.row [.lit (.bool false),.lit .str0]] (.r (.c (.lit (.int .i64 0)))) kR
 .rw[Qmw (by omega),axn h];exact Qaw (hp:=false) (L:=[gx (.string (Qcg z.natAbs))]) Qae Qai [] [Uoh 9 0 z.natAbs false (by simp;omega)] []
   func193 60 [.row [.lit (.bool false),.sym 0]] (.r (.c (.lit (.int .i64 1)))) kR
def Qtd(neg:Bool)(s:ByteArray)(b:Bool)(hb:b=true↔Qka neg s):PureC prog 233 [.agg #[.bool neg,.string s]] (.bool b):=by
  by_cases h0:s.size=0
  · have e : s = ⟨#[]⟩ := by
      cases s with|mk d=>have:d=#[]:=Array.eq_empty_of_size_eq_zero h0;rw[this]
    subst e;have e2:b=!neg:=by
      rw[Bool.eq_iff_iff,hb];constructor
      · intro h;have:=h.1 h0;simp[this]
      · intro h;simp at h;exact⟨fun _=>h,fun x l e=>by cases e⟩
    subst e2;cases neg
    · exact Qaw (hp:=false) (L:=[]) Qae Qai [] [Kql 9] [] func233 60 [.row [.lit (.bool false),.lit .str0]] (.r (.c (.lit (.bool true)))) kR
    · exact Qaw (hp:=false) (L:=[]) Qae Qai [] [Kql 9] [] func233 60 [.row [.lit (.bool true),.lit .str0]] (.r (.c (.lit (.bool false)))) kR
  · have hs:0<s.size:=by omega
    have e2:b=!((s[0].toNat:Int)==0):=by
      rw[Bool.eq_iff_iff,hb];obtain⟨x,l,hx⟩:∃ x l,s.data.toList=x::l:=by
        cases hq:s.data.toList with
        | nil => have h9 : s.data.size = 0 := by rw [<- Array.length_toList,hq];rfl
                 exact absurd h9 h0
        | cons x l=>exact⟨x,l,rfl⟩
      have e3:s[0]=x:=by
        have h9:s.data.toList[0]?=some x:=by rw[hx];rfl
        have h8:s.data[0]?=some x:=by simpa using h9
        have h7:s.data[0]'hs=x:=(axa.1 h8).2;exact h7
      rw[e3];constructor
      · intro h;have:=h.2 x l hx;simp only[Bool.not_eq_true',beq_eq_false_iff_ne,ne_eq];intro e;apply this;apply UInt8.toNat_inj.1;simp at e ⊢;omega
      · intro h;refine⟨fun h'=>absurd h' h0,fun y m e=>?_⟩;rw[hx] at e;cases e;intro e;subst e;simp at h
    exact Qaw (hp:=false) (L:=[gx (.string s),gx (.bool neg),gx (.int .u8 s[0].toNat),gx (.bool b)]) Qae Qai []
      [gb .eql 9 (.c (.sym 0)) (.c (.lit .str0)) (.lit (.bool false)) (Kfa _ s false (by simp only[decide_eq_false_iff_not];intro e;subst e;exact h0 rfl)) rfl rfl rfl,gb .neq 5 (.c (.sym 2)) (.c (.lit (.int .u8 0))) (.sym 3) (Qxu .neq _ .u8 _ _ _ (by rw[e2];rfl)) rfl rfl rfl]
      [Uha 9 (.c (.sym 0)) (.c (.lit (.int .i64 0))) (.sym 2) (fun w=>by
        show(Instr.index 9 (.string s) (.int .i64 0)).run _ w=_;rw[run_index_string w 9 s .i64 0 Tryz.underlying9,dif_pos ⟨by omega,by omega⟩];rfl) rfl rfl rfl]
      func233 60 [.row [.sym 1,.sym 0]] (.r (.c (.sym 3))) kR
end Go.Proofs.YtmimficdpfmfgaaGreat
namespace Tr
open Go Go.RowKit
end Tr
namespace Go.Proofs.YtmimficdpfmfgaaGreat
open Go.RowKit Tr Proofs.Tryz
def WsF(l:List Nat):Qcq:=fun v w A=>Qjo A w v l
def gw(l:List Nat):GF where
 R:=WsF l
 int:=false
 keeps:=fun v w w' A A' hs hk h=>Qjo.keep hs hk h
 cell:=fun v w A ⟨p,c,e,_⟩=>by rw[e];rfl
 noint:=fun _ v w A ⟨p,c,e,_⟩ k x e2=>by rw[e] at e2;cases e2
 ex:=none
 exact:=fun u e=>by cases e
def WL(n k:Nat):Prop:=(Qac n).length<=k
def WL.mono{n j k:Nat}(h:WL n j)(hk:j<=k):WL n k:=axw h hk
def WL.size{n k:Nat}(h:WL n k):(Qcg n).size<=4*k:=by
 rw[Qfk];refine Qio (axc (Qbr n) ?_);rw[show(256:Nat)^(4*k)=4294967296^k by rw[Nat.pow_mul]];exact axg (by decide) h
def Qdn(n:Nat)(hn:WL n 1073741824)(w:World)(A:Nat->Prop)(u:Value)(hR:true=true->Rcv A w)(hu:u=.string (Qcg n)) :
  Calls prog 236 #[u] w fun r w'=>∃ v,r=.returned v/\WsF (Qac n) v w' A/\Below w.heap.size w w':=by
 subst hu;exact(Qwn n (by have:=hn.size;omega) w).mono fun e w' ⟨v,h1,h2,h3⟩=>⟨v,h1,h2.avoids ((hR rfl).below h3),h3⟩
def Qsd(neg:Bool)(n:Nat)(hn:WL n 8589934592)(w:World)(A:Nat->Prop)(u v:Value)(hR:true=true->Rcv A w)(hu:u=.bool neg)(hv:WsF (Qac n) v w A) :
  Calls prog 220 #[u,v] w fun r w'=>r=.returned (Qdu (sgn neg n))/\Below w.heap.size w w':=by
 subst hu;have:=Qnl neg (Qac n) v w (Qap n) hv.wsl (by have h1:(Qac n).length<=8589934592:=hn;omega);rw[Qaq] at this;exact this
def Uwr(a b:Nat)(ha:WL a 8589934592)(hb:WL b 8589934592)(w:World)(A:Nat->Prop)(u v:Value)(hR:true=true->Rcv A w)(hu:WsF (Qac a) u w A)(hv:WsF (Qac b) v w A) :
  Calls prog 258 #[u,v] w fun r w'=>∃ v,r=.returned v/\WsF (Qac (a+b)) v w' A/\Below w.heap.size w w':=by
 have h1:(Qac a).length<=8589934592:=ha;have h2:(Qac b).length<=8589934592:=hb;have:=Kcf (Qac a) (Qac b) u v w (Qap a) (Qap b) hu.wsl hv.wsl (by omega) (by omega);rw[Qaq,Qaq] at this;exact this.mono fun e w' ⟨v,h1,h2,h3⟩=>⟨v,h1,h2.avoids ((hR rfl).below h3),h3⟩
def Uog(a b:Nat)(hba:b<=a)(ha:WL a 8589934592)(w:World)(A:Nat->Prop)(u v:Value)(hR:true=true->Rcv A w)(hu:WsF (Qac a) u w A)(hv:WsF (Qac b) v w A) :
  Calls prog 259 #[u,v] w fun r w'=>∃ v,r=.returned v/\WsF (Qac (a-b)) v w' A/\Below w.heap.size w w':=by
 have h1:(Qac a).length<=8589934592:=ha;have hl:(Qac b).length<=(Qac a).length:=Qal (axd hba (Qbr a));have:=Kcd (Qac a) (Qac b) u v w (Qap a) (Qap b) (by rw[Qaq,Qaq];exact hba) hl hu.wsl hv.wsl (by omega);rw[Qaq,Qaq] at this;exact this.mono fun e w' ⟨v,h1,h2,h3⟩=>⟨v,h1,h2.avoids ((hR rfl).below h3),h3⟩
def Kqk(a b:Nat)(ha:WL a 8589934592)(w:World)(A:Nat->Prop)(u v:Value)(hR:true=true->Rcv A w)(hu:WsF (Qac a) u w A)(hv:WsF (Qac b) v w A) :
  Calls prog 235 #[u,v] w fun r w'=>r=.returned (.int .i64 (Qdw a b))/\Below w.heap.size w w':=by
 have h1:(Qac a).length<=8589934592:=ha;exact(Qgw a b u v w hu.wsl hv.wsl (by omega)).mono fun e w' ⟨h1,n,h2⟩=>⟨h1,by rw[h2];exact Qbs br n⟩
def Kyy(a b:Nat)(ha:WL a 8589934592)(hb:WL b 8589934592)(w:World)(A:Nat->Prop)(u v:Value)(hR:true=true->Rcv A w)(hu:WsF (Qac a) u w A)(hv:WsF (Qac b) v w A) :
  Calls prog 237 #[u,v] w fun r w'=>∃ v,r=.returned v/\WsF (Qac (a*b)) v w' A/\Below w.heap.size w w':=by
 have h1:(Qac a).length<=8589934592:=ha;have h2:(Qac b).length<=8589934592:=hb;have:=Qic (Qac a) (Qac b) u v w (Qap a) (Qap b) hu.wsl hv.wsl (by omega) (by omega);rw[Qaq,Qaq] at this;exact this.mono fun e w' ⟨v,h1,h2,h3⟩=>⟨v,h1,h2.avoids ((hR rfl).below h3),h3⟩
def Qmz(a b:Nat)(hb0:0<b)(ha:WL a 8589934592)(w:World)(A:Nat->Prop)(u v:Value)(hR:true=true->Rcv A w)(hu:WsF (Qac a) u w A)(hv:WsF (Qac b) v w A) :
  Calls prog 272 #[u,v] w fun r w'=>∃ v1 v2,r=.returned (.tuple #[v1,v2])/\WsF (Qac (a/b)) v1 w' A/\WsF (Qac (a%b)) v2 w' A/\Below w.heap.size w w':=by
 have h1:(Qac a).length<=8589934592:=ha;exact(Kbv a b u v w hu.wsl hv.wsl hb0 (by omega)).mono fun e w' ⟨v1,v2,h1,h2,h3,h4⟩=>⟨v1,v2,h1,h2.avoids ((hR rfl).below h4),h3.avoids ((hR rfl).below h4),h4⟩
def Uyb(z:Int):PureC prog 219 [Qdu z] (Qdu (-z)):=by
 rcases Int.lt_trichotomy z 0 with h|h|h
 .rw[Qmv h,Qmw (show 0<=-z by omega),Int.natAbs_neg];exact Qaw (hp:=false) (L:=[gx (.string (Qcg z.natAbs))]) Qae Qai [] [] [] func219 60 [.row [.lit (.bool true),.sym 0]] (.r (.row [.lit (.bool false),.sym 0])) kR
 .subst h;rw[Int.neg_zero,Qrx];exact Qaw (hp:=false) (L:=[]) Qae Qai [] [gb .neq 9 (.c (.lit .str0)) (.c (.lit .str0)) (.lit (.bool false)) (Ktj _ ⟨#[]⟩ false (by simp)) rfl rfl rfl] [] func219 60 [.row [.lit (.bool false),.lit .str0]] (.r (.row [.lit (.bool false),.lit .str0])) kR
 .rw[Qmw (show 0<=z by omega),Qmv (show -z<0 by omega),Int.natAbs_neg];exact Qaw (hp:=false) (L:=[gx (.string (Qcg z.natAbs))]) Qae Qai [] [Uoi 9 0 z.natAbs true (by simp;omega)] [] func219 60 [.row [.lit (.bool false),.sym 0]] (.r (.row [.lit (.bool true),.sym 0])) kR
def Vcp(z:Int):PureC prog 276 [Qdu z] (Qdu (z.natAbs:Int)):=by
 rw[Qmw (show 0<=(z.natAbs:Int) by omega),axs];exact Qaw (hp:=false) (L:=[gx (.bool (decide (z<0))),gx (.string (Qcg z.natAbs))]) Qae Qai [] [] [] func276 60 [.row [.sym 0,.sym 1]] (.r (.row [.lit (.bool false),.sym 1])) kR
def cz(z:Int):List GF:=[gx (.bool (decide (z<0))),gx (.string (Qcg z.natAbs))]
def zA(i:Nat):List AC:=[.sym i,.sym (i+1)]
def Kms(neg:Bool)(a b:Nat)(ha:WL a 1073741824)(hb:WL b 1073741824):PureC prog 218 [.agg #[.bool neg,.string (Qcg a)],.agg #[.bool neg,.string (Qcg b)]] (Qdu (sgn neg (a+b))):=by
  have hs:WL (a+b) 8589934592:=by
    have:=Kcl (k:=1073741824) ha hb;exact axw this (by decide)
  exact Qaw (hp:=true) (L:=[gx (.bool neg),gx (.string (Qcg a)),gx (.string (Qcg b)),gw (Qac a),gw (Qac b),gw (Qac (a+b))]++cz (sgn neg (a+b))) Qae Qai
    [gm1 236 (.c (.sym 1)) (.r (.c (.sym 3))) eo236 (Qdn a ha),gm1 236 (.c (.sym 2)) (.r (.c (.sym 4))) eo236 (Qdn b hb),gm2 258 (.c (.sym 3)) (.c (.sym 4)) (.r (.c (.sym 5))) eo258 (Uwr a b (ha.mono (by decide)) (hb.mono (by decide))),Qum 220 (.c (.sym 0)) (.c (.sym 5)) (.r (.row (zA 6))) eo220 (Qsd neg (a+b) hs)]
    [gb .eql 4 (.c (.sym 0)) (.c (.sym 0)) (.lit (.bool true)) (Qxf Tryz.underlying4 neg neg true (by simp)) rfl rfl rfl] []
    func218 100 [.row [.sym 0,.sym 1],.row [.sym 0,.sym 2]] (.r (.row (zA 6))) kR
def Kcg(neg:Bool)(a b:Nat)(ha:WL a 1073741824)(hb:WL b 1073741824)(hba:b<=a):PureC prog 218 [.agg #[.bool neg,.string (Qcg a)],.agg #[.bool !neg,.string (Qcg b)]] (Qdu (sgn neg (a-b))):=by
  have hs:WL (a-b) 8589934592:=axw (Qfc (Nat.sub_le a b) ha) (by decide);exact Qaw (hp:=true) (L:=[gx (.bool neg),gx (.string (Qcg a)),gx (.string (Qcg b)),gw (Qac a),gw (Qac b),gw (Qac (a-b)),gx (.bool !neg),gx (.int .i64 (Qdw a b))]++cz (sgn neg (a-b))) Qae Qai
    [gm1 236 (.c (.sym 1)) (.r (.c (.sym 3))) eo236 (Qdn a ha),gm1 236 (.c (.sym 2)) (.r (.c (.sym 4))) eo236 (Qdn b hb),Qum 235 (.c (.sym 3)) (.c (.sym 4)) (.r (.c (.sym 7))) eo235 (Kqk a b (ha.mono (by decide))),gm2 259 (.c (.sym 3)) (.c (.sym 4)) (.r (.c (.sym 5))) eo259 (Uog a b hba (ha.mono (by decide))),Qum 220 (.c (.sym 0)) (.c (.sym 5)) (.r (.row (zA 8))) eo220 (Qsd neg (a-b) hs)]
    [gb .eql 4 (.c (.sym 0)) (.c (.sym 6)) (.lit (.bool false)) (Qxf Tryz.underlying4 neg (!neg) false (by simp)) rfl rfl rfl,Qgb .geq 3 .i64 (.sym 7) (.lit (.int .i64 0)) (Qdw a b) 0 true (by have:=Qvf hba;simp[Qil];omega) rfl rfl] []
    func218 100 [.row [.sym 0,.sym 1],.row [.sym 6,.sym 2]] (.r (.row (zA 8))) kR
def Qyn(neg:Bool)(a b:Nat)(ha:WL a 1073741824)(hb:WL b 1073741824)(hab:a<b):PureC prog 218 [.agg #[.bool neg,.string (Qcg a)],.agg #[.bool !neg,.string (Qcg b)]] (Qdu (sgn (!neg) (b-a))):=by
  have hs:WL (b-a) 8589934592:=axw (Qfc (Nat.sub_le b a) hb) (by decide);exact Qaw (hp:=true) (L:=[gx (.bool neg),gx (.string (Qcg a)),gx (.string (Qcg b)),gw (Qac a),gw (Qac b),gw (Qac (b-a)),gx (.bool !neg),gx (.int .i64 (Qdw a b))]++cz (sgn (!neg) (b-a))) Qae Qai
    [gm1 236 (.c (.sym 1)) (.r (.c (.sym 3))) eo236 (Qdn a ha),gm1 236 (.c (.sym 2)) (.r (.c (.sym 4))) eo236 (Qdn b hb),Qum 235 (.c (.sym 3)) (.c (.sym 4)) (.r (.c (.sym 7))) eo235 (Kqk a b (ha.mono (by decide))),gm2 259 (.c (.sym 4)) (.c (.sym 3)) (.r (.c (.sym 5))) eo259 (Uog b a (by omega) (hb.mono (by decide))),Qum 220 (.c (.sym 6)) (.c (.sym 5)) (.r (.row (zA 8))) eo220 (Qsd (!neg) (b-a) hs)]
    [gb .eql 4 (.c (.sym 0)) (.c (.sym 6)) (.lit (.bool false)) (Qxf Tryz.underlying4 neg (!neg) false (by simp)) rfl rfl rfl,Qgb .geq 3 .i64 (.sym 7) (.lit (.int .i64 0)) (Qdw a b) 0 false (by have:=Kgz hab;simp[Qil];omega) rfl rfl] []
    func218 100 [.row [.sym 0,.sym 1],.row [.sym 6,.sym 2]] (.r (.row (zA 8))) kR
def Ujb(x y:Int)(hx:WL x.natAbs 1073741824)(hy:WL y.natAbs 1073741824):PureC prog 218 [Qdu x,Qdu y] (Qdu (x+y)):=by
 unfold Qdu
 by_cases h:decide (x<0)=decide (y<0)
 .rw[<-h];have:=Kms (decide (x<0)) x.natAbs y.natAbs hx hy;have e:sgn (decide (x<0)) (x.natAbs+y.natAbs)=x+y:=by
   unfold sgn
   by_cases hx0:x<0<;>simp[hx0] at h ⊢<;>omega
  rw[e] at this;exact this
 .have h':decide (y<0)=!decide (x<0):=by cases hq:decide (x<0)<;>cases hr:decide (y<0)<;>simp_all
  rw[h']
  by_cases hba:y.natAbs<=x.natAbs
  .have:=Kcg (decide (x<0)) x.natAbs y.natAbs hx hy hba;have e:sgn (decide (x<0)) (x.natAbs-y.natAbs)=x+y:=by
    unfold sgn
    by_cases hx0:x<0<;>simp[hx0] at h' ⊢<;>omega
   rw[e] at this;exact this
  .have:=Qyn (decide (x<0)) x.natAbs y.natAbs hx hy (by omega);have e:sgn (!decide (x<0)) (y.natAbs-x.natAbs)=x+y:=by
    unfold sgn
    by_cases hx0:x<0<;>simp[hx0] at h' ⊢<;>omega
   rw[e] at this;exact this
def Udv(x y:Int)(hx:WL x.natAbs 1073741824)(hy:WL y.natAbs 1073741824):PureC prog 275 [Qdu x,Qdu y] (Qdu (x-y)) :=
  Qaw (hp:=false) (L:=cz x++cz y++cz (-y)++cz (x-y)) Qae Qai
    [gp 219 [.row (zA 2)] (.r (.row (zA 4))) eo219 (Uyb y) rfl rfl,gp 218 [.row (zA 0),.row (zA 4)] (.r (.row (zA 6))) eo218 (Ujb x (-y) hx (by rw[Int.natAbs_neg];exact hy)) rfl rfl] [] []
    func275 100 [.row (zA 0),.row (zA 2)] (.r (.row (zA 6))) kR rfl rfl
def Kjf(x y:Int)(hx:WL x.natAbs 1073741824)(hy:WL y.natAbs 1073741824):PureC prog 156 [Qdu x,Qdu y] (Qdu (x*y)):=by
  have hs:WL (x.natAbs*y.natAbs) 8589934592:=axw (Qfu hx hy) (by decide);have e:sgn (decide (x<0) != decide (y<0)) (x.natAbs*y.natAbs)=x*y:=by
    have h0:=axm x y;rw[<-h0];unfold sgn;rcases Int.lt_trichotomy x 0 with h1|h1|h1<;>rcases Int.lt_trichotomy y 0 with h2|h2|h2
    · have:=Int.mul_pos_of_neg_of_neg h1 h2;simp[h1,h2];omega
    · subst h2;simp
    · have:=Int.mul_neg_of_neg_of_pos h1 h2;have h3:¬y<0:=by omega
      simp[h1,h3];omega
    · subst h1;simp
    · subst h1;simp
    · subst h1;simp
    · have:=Int.mul_neg_of_pos_of_neg h1 h2;have h3:¬x<0:=by omega
      simp[h3,h2];omega
    · subst h2;simp
    · have:=Int.mul_pos h1 h2;have h3:¬x<0:=by omega
      have h4:¬y<0:=by omega
      simp[h3,h4];omega
  have hm:=Qsd (decide (x<0) != decide (y<0)) (x.natAbs*y.natAbs) hs;rw[e] at hm;exact Qaw (hp:=true) (L:=cz x++cz y++[gx (.bool (decide (x<0) != decide (y<0))),gw (Qac x.natAbs),gw (Qac y.natAbs),gw (Qac (x.natAbs*y.natAbs))]++cz (x*y)) Qae Qai
    [gm1 236 (.c (.sym 1)) (.r (.c (.sym 5))) eo236 (Qdn _ hx),gm1 236 (.c (.sym 3)) (.r (.c (.sym 6))) eo236 (Qdn _ hy),gm2 237 (.c (.sym 5)) (.c (.sym 6)) (.r (.c (.sym 7))) eo237 (Kyy _ _ (hx.mono (by decide)) (hy.mono (by decide))),Qum 220 (.c (.sym 4)) (.c (.sym 7)) (.r (.row (zA 8))) eo220 hm]
    [gb .neq 4 (.c (.sym 0)) (.c (.sym 2)) (.sym 4) (Qqu Tryz.underlying4 _ _ _ rfl) rfl rfl rfl] []
    func156 100 [.row (zA 0),.row (zA 2)] (.r (.row (zA 8))) kR rfl rfl
def Khc(n:Int)(t:TypeId)(ht:prog.underlying t=some (.int .u64))(m:Int)(hm:IntKind.u64.wrap n=m):∀ w,(convert 2 t (.int .i64 n)).run prog w=.ok (.int .u64 m) w:=by
 intro w;simp[convert,run_underlying Tryz.underlying2,run_underlying ht,Conv.intToInt,hm]
def Qqv(n:Int)(s t:TypeId)(hs:∃ d,prog.underlying s=some d)(ht:prog.underlying t=some (.int .u32))(m:Int)(hm:IntKind.u32.wrap n=m):∀ w,(convert s t (.int .u64 n)).run prog w=.ok (.int .u32 m) w:=by
 obtain⟨d,hs⟩:=hs;intro w;simp[convert,run_underlying hs,run_underlying ht,Conv.intToInt,hm]
def Ktq(t:TypeId)(a b:Nat)(hb:b≠0):∀(xo yo:Operand) (w:World),(do eqGuard .rem t xo yo (.int .u64 a) (.int .u64 b);binOp .rem t (.int .u64 a) (.int .u64 b):Sem Value).run prog w=.ok (.int .u64 ((a%b:Nat):Int)) w:=by
 intro xo yo w;have h3:((a:Int).tmod (b:Int))=((a%b:Nat):Int):=by rw[Int.ofNat_tmod]
 simp[eqGuard,binOp,Op.intDiv,hb];exact h3
def Ktp(t:TypeId)(a b:Nat)(hb:b≠0)(ha:a<18446744073709551616):∀(xo yo:Operand) (w:World),(do eqGuard .quo t xo yo (.int .u64 a) (.int .u64 b);binOp .quo t (.int .u64 a) (.int .u64 b):Sem Value).run prog w=.ok (.int .u64 ((a/b:Nat):Int)) w:=by
 intro xo yo w;have h1:a/b<=a:=Nat.div_le_self a b;obtain⟨q,hq⟩:∃ q,q=a/b:=⟨_,rfl⟩
 rw[<-hq] at h1 ⊢;have h2:IntKind.u64.wrap (q:Int)=(q:Int):=by rw[IntKind.wrap_u64];omega
 have h3:((a:Int).tdiv (b:Int))=(q:Int):=by rw[hq,Int.ofNat_tdiv]
 simp only[eqGuard,binOp,Op.intDiv,Sem.run_bind];simp[hb,h3,h2]
def Kto(u:Nat)(hu:u<18446744073709551616):wv [u%4294967296,u/4294967296]=u/\WOk [u%4294967296,u/4294967296]:=by
 refine⟨by simp[wv];omega,?_⟩;rw[Qdz,Qdz];exact⟨by omega,by omega,Qfz⟩
def Kzg(neg:Bool)(u:Nat)(hu:u<18446744073709551616)(w:World)(n:Nat)(vs:List Value)(hn:w.heap[n]?=some (.cells vs.toArray 268 (0,0)))(hv:vs=[.int .u32 ((u%4294967296:Nat):Int),.int .u32 ((u/4294967296:Nat):Int)]) :
  Calls prog 220 #[.bool neg,.slice (some ⟨n,0,none⟩) 2 2] w fun e w'=>e=.returned (Qdu (sgn neg u))/\Below w.heap.size w w':=by
 obtain⟨h1,h2⟩:=Kto u hu;have:=Qnl neg [u%4294967296,u/4294967296] (.slice (some ⟨n,0,none⟩) 2 2) w h2 ⟨_,2,rfl,by simp,fun _=>⟨n,0,rfl,(axa.1 hn).1,fun j hj=>by
  subst hv
  match j,hj with
  | 0,_=>simp[World.cell?,hn]
  | 1,_=>simp[World.cell?,hn]
  | j+2,hj=>exact absurd hj (by simp)⟩⟩ (by simp)
 rw[h1] at this;exact this
def Ucw{L:List GF}(neg:Bool)(u:Nat)(hu:u<18446744073709551616)(b:Nat)(x:AC)(lo hi:Nat)(res:AV)(hlo:(AC.sym lo).gv L=some (.int .u32 ((u%4294967296:Nat):Int)))(hhi:(AC.sym hi).gv L=some (.int .u32 ((u/4294967296:Nat):Int)))(hx:x.gv L=some (.bool neg))(hr:res.gv L=some (Qdu (sgn neg u))):GC prog L false :=
 ⟨{ f:=220,args:=[.c x,.c (.sl b 0 2 2)],res,needs:=[(b,⟨[.sym lo,.sym hi],268,none⟩)] },eo220,fun σ w A us _ _ hu' hn=>by
  match us,hu' with
  | [u1,u2],⟨h1,h2,_⟩ =>
   obtain⟨m,e1,e2⟩:=h2;obtain⟨⟨n,vs,k1,k2,k3,k4⟩,_⟩:=hn;rw[e1] at k1;cases k1;have e3:u1=.bool neg:=(AC.gv_ok (x:=x) hx).1 h1;subst e3;subst e2;have hv:vs=[.int .u32 ((u%4294967296:Nat):Int),.int .u32 ((u/4294967296:Nat):Int)]:=by
    match vs,k4 with
    | [a,b],⟨g1,g2,_⟩=>rw[(AC.gv_ok (x:=.sym lo) hlo).1 g1,(AC.gv_ok (x:=.sym hi) hhi).1 g2]
   exact(Kzg neg u hu w m vs k3 hv).mono fun r w' ⟨h1,h2⟩=>⟨_,h1,(AV.gv_ok hr).2 rfl,h2⟩⟩
def sof(n:Int)(h1:-9223372036854775808<=n)(h2:n<9223372036854775808):PureC prog 145 [.int .i64 n] (Qdu n):=by
  obtain⟨u,hu⟩:∃ u,u=n.natAbs:=⟨_,rfl⟩
  have hu64:u<18446744073709551616:=by omega
  have hz:sgn (decide (n<0)) u=n:=by rw[hu];exact Qrl n
  by_cases hneg:n<0
  · have hd:decide (n<0)=true:=by simp[hneg]
    rw[hd] at hz;have hw:IntKind.u64.wrap n=18446744073709551616-(u:Int):=by rw[IntKind.wrap_u64];omega
    have hw2:IntKind.u64.wrap (0-(18446744073709551616-(u:Int)))=(u:Int):=by rw[IntKind.wrap_u64];omega
    exact Qaw (hp:=false) (L:=[gx (.int .i64 n),gx (.int .u64 (18446744073709551616-(u:Int))),gx (.int .u64 (u:Int)),gx (.int .u64 ((u%4294967296:Nat):Int)),gx (.int .u64 ((u/4294967296:Nat):Int)),gx (.int .u32 ((u%4294967296:Nat):Int)),gx (.int .u32 ((u/4294967296:Nat):Int))]++cz n) Qae Qai
      [Ucw true u hu64 17 (.lit (.bool true)) 5 6 (.r (.row (zA 7))) rfl rfl rfl (by rw[hz];rfl)]
      [Qgb .lss 2 .i64 (.sym 0) (.lit (.int .i64 0)) n 0 true (by simp[Qil,hneg]) rfl rfl,gb .rem 266 (.c (.sym 2)) (.c (.lit (.int .u64 4294967296))) (.sym 3) (Ktq _ u 4294967296 (by decide)) rfl rfl rfl,gb .quo 266 (.c (.sym 2)) (.c (.lit (.int .u64 4294967296))) (.sym 4) (Ktp _ u 4294967296 (by decide) hu64) rfl rfl rfl]
      [Qvu 2 266 (.c (.sym 0)) (.sym 1) (Khc n _ Tryz.underlying266 _ hw) rfl rfl,Uoo (.c (.sym 1)) (.sym 2) (fun w=>by simp only[Op.unary,Op.intArith,Sem.run_pure,hw2]) rfl rfl,Qvu 266 268 (.c (.sym 3)) (.sym 5) (Qqv _ _ _ ⟨_,Tryz.underlying266⟩ Tryz.underlying268 _ (by rw[IntKind.wrap_u32];omega)) rfl rfl,Qvu 266 268 (.c (.sym 4)) (.sym 6) (Qqv _ _ _ ⟨_,Tryz.underlying266⟩ Tryz.underlying268 _ (by rw[IntKind.wrap_u32];omega)) rfl rfl]
      func145 100 [.c (.sym 0)] (.r (.row (zA 7))) kR rfl rfl
  · have hd:decide (n<0)=false:=by simp;omega
    rw[hd] at hz;have hw:IntKind.u64.wrap n=(u:Int):=by rw[IntKind.wrap_u64];omega
    exact Qaw (hp:=false) (L:=[gx (.int .i64 n),gx (.bool true),gx (.int .u64 (u:Int)),gx (.int .u64 ((u%4294967296:Nat):Int)),gx (.int .u64 ((u/4294967296:Nat):Int)),gx (.int .u32 ((u%4294967296:Nat):Int)),gx (.int .u32 ((u/4294967296:Nat):Int))]++cz n) Qae Qai
      [Ucw false u hu64 14 (.lit (.bool false)) 5 6 (.r (.row (zA 7))) rfl rfl rfl (by rw[hz];rfl)]
      [Qgb .lss 2 .i64 (.sym 0) (.lit (.int .i64 0)) n 0 false (by simp[Qil];omega) rfl rfl,gb .rem 266 (.c (.sym 2)) (.c (.lit (.int .u64 4294967296))) (.sym 3) (Ktq _ u 4294967296 (by decide)) rfl rfl rfl,gb .quo 266 (.c (.sym 2)) (.c (.lit (.int .u64 4294967296))) (.sym 4) (Ktp _ u 4294967296 (by decide) hu64) rfl rfl rfl]
      [Qvu 2 266 (.c (.sym 0)) (.sym 2) (Khc n _ Tryz.underlying266 _ hw) rfl rfl,Qvu 266 268 (.c (.sym 3)) (.sym 5) (Qqv _ _ _ ⟨_,Tryz.underlying266⟩ Tryz.underlying268 _ (by rw[IntKind.wrap_u32];omega)) rfl rfl,Qvu 266 268 (.c (.sym 4)) (.sym 6) (Qqv _ _ _ ⟨_,Tryz.underlying266⟩ Tryz.underlying268 _ (by rw[IntKind.wrap_u32];omega)) rfl rfl]
      func145 100 [.c (.sym 0)] (.r (.row (zA 7))) kR rfl rfl
def Qkx(l:List Nat)(w:World)(A:Nat->Prop)(u:Value)(ty:TypeId)(hu:WsF l u w A):(Builtin.len_ #[228] ty #[u]).run prog w=.ok (.int .i64 (l.length:Nat)) w:=by
 obtain⟨p,c,rfl,_⟩:=hu;simp[Builtin.len_,run_underlying Tryz.underlying228,goInt]
def Qxl{x y:Int}(hx:0<=x):x/y=sgn (decide (y<0)) (x.natAbs/y.natAbs)/\x%y=((x.natAbs%y.natAbs:Nat):Int):=by
 obtain⟨a,rfl⟩:∃ a:Nat,x=a:=⟨x.natAbs,by omega⟩
 rcases(show y<0\/0<=y by omega) with h|h
 .obtain⟨b,rfl⟩:∃ b:Nat,y=-(b:Int):=⟨y.natAbs,by omega⟩
  unfold sgn;simp[Int.ediv_neg,Int.emod_neg];intro h0;omega
 .obtain⟨b,rfl⟩:∃ b:Nat,y=b:=⟨y.natAbs,by omega⟩
  have:¬((b:Int)<0):=by omega
  unfold sgn;simp[this]
def Qxk{x y:Int}(hx:x<0)(hy:y≠0)(hr:x.natAbs%y.natAbs=0):x/y=sgn (!decide (y<0)) (x.natAbs/y.natAbs)/\x%y=0:=by
 obtain⟨a,rfl⟩:∃ a:Nat,x=-(a:Int):=⟨x.natAbs,by omega⟩
 have hd:=Nat.dvd_of_mod_eq_zero hr;simp only[Int.natAbs_neg,axs] at hr hd ⊢;rcases(show y<0\/0<=y by omega) with h|h
 .obtain⟨b,rfl⟩:∃ b:Nat,y=-(b:Int):=⟨y.natAbs,by omega⟩
  simp only[Int.natAbs_neg,axs] at hd hr ⊢;obtain⟨c,rfl⟩:=hd;have hb:0<b:=by omega
  unfold sgn;simp[Int.ediv_neg,Int.emod_neg,Nat.mul_div_cancel_left c hb];rw[<-Int.mul_neg,Int.mul_ediv_cancel_left _ (by omega)];simp;intro h0;omega
 .obtain⟨b,rfl⟩:∃ b:Nat,y=b:=⟨y.natAbs,by omega⟩
  simp only[axs] at hd hr ⊢;obtain⟨c,rfl⟩:=hd;have hb:0<b:=by omega
  have:¬((b:Int)<0):=by omega
  unfold sgn;simp[this,Nat.mul_div_cancel_left c hb];rw[<-Int.mul_neg,Int.mul_ediv_cancel_left _ (by omega)]
def Qrw{x y q r:Int}(hy:y≠0)(h:x=y*q+r)(h0:0<=r)(h1:r<y.natAbs):x/y=q/\x%y=r:=by
 rw[h];have hr:r/y=0:=by
  rcases(show y<0\/0<=y by omega) with hn|hp
  .obtain⟨b,rfl⟩:∃ b:Nat,y=-(b:Int):=⟨y.natAbs,by omega⟩
   rw[Int.ediv_neg,Int.ediv_eq_zero_of_lt h0 (by omega)];rfl
  .exact Int.ediv_eq_zero_of_lt h0 (by omega)
 constructor
 .rw[Int.mul_add_ediv_left _ _ hy,hr,Int.add_zero]
 .rw[Int.mul_add_emod_self_left];have:=Int.mul_ediv_add_emod r y;rw[hr] at this;omega
def Kaj{x y:Int}(hx:x<0)(hy:y≠0)(hr:x.natAbs%y.natAbs≠0) :
  (y<0->x/y=((x.natAbs/y.natAbs:Nat):Int)+1)/\(0<y->x/y=-((x.natAbs/y.natAbs:Nat):Int)-1)/\x%y=(y.natAbs:Int)-((x.natAbs%y.natAbs:Nat):Int):=by
 obtain⟨a,rfl⟩:∃ a:Nat,x=-(a:Int):=⟨x.natAbs,by omega⟩
 simp only[Int.natAbs_neg,axs] at hr ⊢;have hb0:0<y.natAbs:=by omega
 have h1:=Nat.div_add_mod a y.natAbs;have h2:=Nat.mod_lt a hb0;obtain⟨q,hq⟩:∃ q,q=a/y.natAbs:=⟨_,rfl⟩
 obtain⟨r,hr'⟩:∃ r,r=a%y.natAbs:=⟨_,rfl⟩
 rw[<-hq,<-hr'] at h1;rw[<-hr'] at h2 hr;rw[<-hq,<-hr'];have h3:(y.natAbs:Int)*q+r=a:=by rw[<-h1];simp
 rcases(show y<0\/0<=y by omega) with h|h
 .have hyn:(y.natAbs:Int)=-y:=by omega
  rw[hyn] at h3 ⊢;have:=Qrw (x:=-(a:Int)) (y:=y) (q:=(q:Int)+1) (r:=-y-r) hy (by rw[Int.mul_add,Int.mul_one,<-h3,Int.neg_mul];omega) (by omega) (by omega);exact⟨fun _=>this.1,fun h'=>by omega,this.2⟩
 .have hyn:(y.natAbs:Int)=y:=by omega
  rw[hyn] at h3 ⊢;have:=Qrw (x:=-(a:Int)) (y:=y) (q:=-(q:Int)-1) (r:=y-r) hy (by rw[Int.mul_sub,Int.mul_one,<-h3,Int.mul_neg];omega) (by omega) (by omega);exact⟨fun h'=>by omega,fun _=>this.1,this.2⟩
def WL.div{a b k:Nat}(h:WL a k):WL (a/b) k:=Qfc (Nat.div_le_self a b) h
def WL.mod{a b k:Nat}(h:WL a k):WL (a%b) k:=Qfc (Nat.mod_le a b) h
def WL.one:WL 1 1:=Qal (by decide)
def WL.zero(k:Nat):WL 0 k:=by unfold WL;rw[Qay];exact Nat.zero_le _
def Qsj(neg:Bool)(a k:Nat)(h:WL a k):WL (sgn neg a).natAbs k:=by rw[Qdi];exact h
def Uiy (a : Nat) (y : Int) (hy : y ≠ 0) (ha : WL a 536870912) (hb : WL y.natAbs 536870912) :
    PureC prog 243 [.agg #[.bool false,.string (Qcg a)],Qdu y] (.tuple #[Qdu (sgn (decide (y<0)) (a/y.natAbs)),Qdu ((a%y.natAbs:Nat):Int)]):=by
  have hb0:0<y.natAbs:=by omega
  have h1:=Qsd (decide (y<0)) (a/y.natAbs) (ha.div.mono (by decide));have h2:=Qsd false (a%y.natAbs) (ha.mod.mono (by decide));rw[show sgn false (a%y.natAbs)=((a%y.natAbs:Nat):Int) from rfl] at h2;exact Qaw (hp:=true) (L:=[gx (.string (Qcg a)),gx (.string (Qcg y.natAbs)),gw (Qac a),gw (Qac y.natAbs),gw (Qac (a/y.natAbs)),gw (Qac (a%y.natAbs)),gx (.bool (decide (y<0)))]++cz (sgn (decide (y<0)) (a/y.natAbs))++cz ((a%y.natAbs:Nat):Int)) Qae Qai
    [gm1 236 (.c (.sym 0)) (.r (.c (.sym 2))) eo236 (Qdn _ (ha.mono (by decide))),gm1 236 (.c (.sym 1)) (.r (.c (.sym 3))) eo236 (Qdn _ (hb.mono (by decide))),gm2 272 (.c (.sym 2)) (.c (.sym 3)) (.tup [.c (.sym 4),.c (.sym 5)]) eo272 (fun w A u v hR hu hv=>(Qmz a y.natAbs hb0 (ha.mono (by decide)) w A u v hR hu hv).mono fun r w' ⟨v1,v2,h1,h2,h3,h4⟩=>⟨_,h1,⟨[v1,v2],rfl,h2,h3,trivial⟩,h4⟩),Qum 220 (.c (.sym 6)) (.c (.sym 4)) (.r (.row (zA 7))) eo220 h1,Qum 220 (.c (.lit (.bool false))) (.c (.sym 5)) (.r (.row (zA 9))) eo220 h2]
    [gb .neq 4 (.c (.lit (.bool false))) (.c (.sym 6)) (.sym 6) (Qqu Tryz.underlying4 _ _ _ (by cases decide (y<0)<;>rfl)) rfl rfl rfl] []
    func243 100 [.row [.lit (.bool false),.sym 0],.row [.sym 6,.sym 1]] (.tup [.row (zA 7),.row (zA 9)]) kR rfl rfl
def Ubb (a : Nat) (y : Int) (hy : y ≠ 0) (hr : a%y.natAbs = 0) (ha : WL a 536870912) (hb : WL y.natAbs 536870912) :
    PureC prog 243 [.agg #[.bool true,.string (Qcg a)],Qdu y] (.tuple #[Qdu (sgn (!decide (y<0)) (a/y.natAbs)),Qdu 0]):=by
  have hb0:0<y.natAbs:=by omega
  have h1:=Qsd (!decide (y<0)) (a/y.natAbs) (ha.div.mono (by decide));have h2:=Qsd false 0 (WL.zero _);rw[show sgn false 0=0 from rfl] at h2;have hd:=Qmz a y.natAbs hb0 (ha.mono (by decide));rw[hr] at hd;exact Qaw (hp:=true) (L:=[gx (.string (Qcg a)),gx (.string (Qcg y.natAbs)),gw (Qac a),gw (Qac y.natAbs),gw (Qac (a/y.natAbs)),gw (Qac 0),gx (.bool (decide (y<0))),gx (.bool (!decide (y<0)))]++cz (sgn (!decide (y<0)) (a/y.natAbs))++cz 0) Qae Qai
    [gm1 236 (.c (.sym 0)) (.r (.c (.sym 2))) eo236 (Qdn _ (ha.mono (by decide))),gm1 236 (.c (.sym 1)) (.r (.c (.sym 3))) eo236 (Qdn _ (hb.mono (by decide))),gm2 272 (.c (.sym 2)) (.c (.sym 3)) (.tup [.c (.sym 4),.c (.sym 5)]) eo272 (fun w A u v hR hu hv=>(hd w A u v hR hu hv).mono fun r w' ⟨v1,v2,h1,h2,h3,h4⟩=>⟨_,h1,⟨[v1,v2],rfl,h2,h3,trivial⟩,h4⟩),Qum 220 (.c (.sym 7)) (.c (.sym 4)) (.r (.row (zA 8))) eo220 h1,Qum 220 (.c (.lit (.bool false))) (.c (.sym 5)) (.r (.row (zA 10))) eo220 h2]
    [gb .neq 4 (.c (.lit (.bool true))) (.c (.sym 6)) (.sym 7) (Qqu Tryz.underlying4 _ _ _ (by cases decide (y<0)<;>rfl)) rfl rfl rfl]
    [Kar 228 (.c (.sym 5)) (.lit (.int .i64 0)) (fun w A u ty hu=>by have:=Qkx (Qac 0) w A u ty hu;simpa[Qay] using this)]
    func243 100 [.row [.lit (.bool true),.sym 0],.row [.sym 6,.sym 1]] (.tup [.row (zA 8),.row (zA 10)]) kR rfl rfl
def Uix (a : Nat) (yn : Bool) (b : Nat) (hb0 : 0 < b) (hr : a%b ≠ 0) (ha : WL a 536870912) (hb : WL b 536870912) (q : Int) (hq : q = if yn then sgn (!yn) (a/b) + 1 else sgn (!yn) (a/b)-1) :
    PureC prog 243 [.agg #[.bool true,.string (Qcg a)],.agg #[.bool yn,.string (Qcg b)]] (.tuple #[Qdu q,Qdu ((b:Int)-((a%b:Nat):Int))]):=by
  have h1:=Qsd (!yn) (a/b) (ha.div.mono (by decide));have h2:=Qsd false (a%b) (ha.mod.mono (by decide));rw[show sgn false (a%b)=((a%b:Nat):Int) from rfl] at h2;have hl:0<(Qac (a%b)).length:=List.length_pos_iff.2 (fun h=>hr (Qbz.1 h));have hs:=sof 1 (by decide) (by decide);have hab:=Vcp (sgn yn b);rw[Qdi] at hab;have habs:Qdu (sgn yn b)=.agg #[.bool yn,.string (Qcg b)]:=by
    unfold Qdu;rw[Qdi,Qkm];simp;omega
  rw[habs] at hab;have hm:=Udv (b:Int) ((a%b:Nat):Int) (by rw[axs];exact hb.mono (by decide)) (by rw[axs];exact ha.mod.mono (by decide));cases yn
  · have hp:=Udv (sgn true (a/b)) 1 (Qsj _ _ _ (ha.div.mono (by decide))) (WL.one.mono (by decide));simp only[Bool.not_false,Bool.false_eq_true,if_false] at hq;rw[Bool.not_false] at h1;rw[<-hq] at hp;exact Qaw (hp:=true) (L:=[gx (.string (Qcg a)),gx (.string (Qcg b)),gw (Qac a),gw (Qac b),gw (Qac (a/b)),gw (Qac (a%b)),gx (.int .i64 ((Qac (a%b)).length:Nat))]++cz (sgn true (a/b))++cz ((a%b:Nat):Int)++cz 1++cz q++cz (b:Int)++cz ((b:Int)-((a%b:Nat):Int))) Qae Qai
      [gm1 236 (.c (.sym 0)) (.r (.c (.sym 2))) eo236 (Qdn _ (ha.mono (by decide))),gm1 236 (.c (.sym 1)) (.r (.c (.sym 3))) eo236 (Qdn _ (hb.mono (by decide))),gm2 272 (.c (.sym 2)) (.c (.sym 3)) (.tup [.c (.sym 4),.c (.sym 5)]) eo272 (fun w A u v hR hu hv=>(Qmz a b hb0 (ha.mono (by decide)) w A u v hR hu hv).mono fun r w' ⟨v1,v2,h1,h2,h3,h4⟩=>⟨_,h1,⟨[v1,v2],rfl,h2,h3,trivial⟩,h4⟩),Qum 220 (.c (.lit (.bool true))) (.c (.sym 4)) (.r (.row (zA 7))) eo220 h1,Qum 220 (.c (.lit (.bool false))) (.c (.sym 5)) (.r (.row (zA 9))) eo220 h2,gp 145 [.c (.lit (.int .i64 1))] (.r (.row (zA 11))) eo145 hs rfl rfl,gp 275 [.row (zA 7),.row (zA 11)] (.r (.row (zA 13))) eo275 hp rfl rfl,gp 276 [.row [.lit (.bool false),.sym 1]] (.r (.row (zA 15))) eo276 hab rfl rfl,gp 275 [.row (zA 15),.row (zA 9)] (.r (.row (zA 17))) eo275 hm rfl rfl]
      [Qxs 4 Tryz.underlying4 true false,Qgb .eql 3 .i64 (.sym 6) (.lit (.int .i64 0)) _ 0 false (by simp only[Qil];congr 1;simp only[beq_eq_false_iff_ne];omega) rfl rfl]
      [Kar 228 (.c (.sym 5)) (.sym 6) (fun w A u ty hu=>Qkx (Qac (a%b)) w A u ty hu)]
      func243 100 [.row [.lit (.bool true),.sym 0],.row [.lit (.bool false),.sym 1]] (.tup [.row (zA 13),.row (zA 17)]) kR rfl rfl
  · have hp:=Ujb (sgn false (a/b)) 1 (Qsj _ _ _ (ha.div.mono (by decide))) (WL.one.mono (by decide));simp only[Bool.not_true,if_true] at hq;rw[Bool.not_true] at h1;rw[<-hq] at hp;exact Qaw (hp:=true) (L:=[gx (.string (Qcg a)),gx (.string (Qcg b)),gw (Qac a),gw (Qac b),gw (Qac (a/b)),gw (Qac (a%b)),gx (.int .i64 ((Qac (a%b)).length:Nat))]++cz (sgn false (a/b))++cz ((a%b:Nat):Int)++cz 1++cz q++cz (b:Int)++cz ((b:Int)-((a%b:Nat):Int))) Qae Qai
      [gm1 236 (.c (.sym 0)) (.r (.c (.sym 2))) eo236 (Qdn _ (ha.mono (by decide))),gm1 236 (.c (.sym 1)) (.r (.c (.sym 3))) eo236 (Qdn _ (hb.mono (by decide))),gm2 272 (.c (.sym 2)) (.c (.sym 3)) (.tup [.c (.sym 4),.c (.sym 5)]) eo272 (fun w A u v hR hu hv=>(Qmz a b hb0 (ha.mono (by decide)) w A u v hR hu hv).mono fun r w' ⟨v1,v2,h1,h2,h3,h4⟩=>⟨_,h1,⟨[v1,v2],rfl,h2,h3,trivial⟩,h4⟩),Qum 220 (.c (.lit (.bool false))) (.c (.sym 4)) (.r (.row (zA 7))) eo220 h1,Qum 220 (.c (.lit (.bool false))) (.c (.sym 5)) (.r (.row (zA 9))) eo220 h2,gp 145 [.c (.lit (.int .i64 1))] (.r (.row (zA 11))) eo145 hs rfl rfl,gp 218 [.row (zA 7),.row (zA 11)] (.r (.row (zA 13))) eo218 hp rfl rfl,gp 276 [.row [.lit (.bool true),.sym 1]] (.r (.row (zA 15))) eo276 hab rfl rfl,gp 275 [.row (zA 15),.row (zA 9)] (.r (.row (zA 17))) eo275 hm rfl rfl]
      [Qxs 4 Tryz.underlying4 true true,Qgb .eql 3 .i64 (.sym 6) (.lit (.int .i64 0)) _ 0 false (by simp only[Qil];congr 1;simp only[beq_eq_false_iff_ne];omega) rfl rfl]
      [Kar 228 (.c (.sym 5)) (.sym 6) (fun w A u ty hu=>Qkx (Qac (a%b)) w A u ty hu)]
      func243 100 [.row [.lit (.bool true),.sym 0],.row [.lit (.bool true),.sym 1]] (.tup [.row (zA 13),.row (zA 17)]) kR rfl rfl
def Qym(x y:Int)(hy:y≠0)(hx:WL x.natAbs 536870912)(hyl:WL y.natAbs 536870912):PureC prog 243 [Qdu x,Qdu y] (.tuple #[Qdu (x/y),Qdu (x%y)]):=by
 rcases(show x<0\/0<=x by omega) with h|h
 .by_cases hr:x.natAbs%y.natAbs=0
  .obtain⟨e1,e2⟩:=Qxk h hy hr;rw[e1,e2,Qmv h];exact Ubb _ y hy hr hx hyl
  .obtain⟨e1,e2,e3⟩:=Kaj h hy hr;have hq:x/y=if decide (y<0) then sgn (!decide (y<0)) (x.natAbs/y.natAbs)+1 else sgn (!decide (y<0)) (x.natAbs/y.natAbs)-1:=by
    by_cases hn:y<0
    .rw[e1 hn];simp[hn,sgn]
    .rw[e2 (by omega)];simp[hn,sgn]
   rw[e3,Qmv h];exact Uix x.natAbs (decide (y<0)) y.natAbs (by omega) hr hx hyl (x/y) hq
 .obtain⟨e1,e2⟩:=Qxl (y:=y) h;rw[e1,e2,Qmw h];exact Uiy _ y hy hx hyl
end Go.Proofs.YtmimficdpfmfgaaGreat
namespace Tr
open Go Go.RowKit
def Qqt(cx:Cx)(s:AS):Bool:=s.blocks.all fun b=>match b with|.live ab|.lent ab=>Qbp cx ab.cells|_=>true
def Ucx(cx:Cx)(fuel:Nat)(x:Code)(inv:AS)(pairs:List (Nat×Nat))(lits:List (LV×Nat)):Bool :=
 match evC cx fuel x inv with
 | some (.normal,s)=>tlS (Ksi pairs lits) s inv
 | _=>false
def Udb(cx:Cx)(fuel:Nat)(x:Code)(inv:AS)(id:Nat)(post:AS)(pairs:List (Nat×Nat))(lits:List (LV×Nat)):Bool :=
 match evC cx fuel x inv with
 | some (.exit k,s)=>k==id&&tlS (Ksi pairs lits) s post
 | _=>false
def Qoc(T T':Nat->Qcq)(pairs:List (Nat×Nat))(lits:List (LV×Nat)):Prop :=
 (∀ p∈pairs,∀ v w A,T p.1 v w A->T' p.2 v w A)/\∀ p∈lits,∀ w A,T' p.2 p.1.val w A
def Qoc.gives{T T':Nat->Qcq}{pairs:List (Nat×Nat)}{lits:List (LV×Nat)}(h:Qoc T T' pairs lits):Kdf T T' (Ksi pairs lits):=by
 intro x y hr σ v w A hx;unfold Ksi at hr
 split at hr
 .rename_i i j;rw[List.any_eq_true] at hr;obtain⟨p,hp,he⟩:=hr;simp only[Bool.and_eq_true,beq_iff_eq] at he;obtain⟨rfl,rfl⟩:=he;exact h.1 p hp v w A hx
 .rename_i l j;rw[List.any_eq_true] at hr;obtain⟨p,hp,he⟩:=hr;simp only[Bool.and_eq_true,beq_iff_eq] at he;obtain⟨h1,rfl⟩:=he;have:=LV.eq_of h1;subst this;rw[show v=p.1.val from hx];exact h.2 p hp w A
 .rw[<-LV.eq_of hr];exact hx
 .simp only[Bool.and_eq_true,beq_iff_eq] at hr;obtain⟨rfl,rfl⟩:=hr;exact hx
 .simp only[Bool.and_eq_true,beq_iff_eq] at hr;obtain⟨⟨⟨rfl,rfl⟩,rfl⟩,rfl⟩:=hr;exact hx
 .simp only[Bool.and_eq_true,beq_iff_eq] at hr;obtain⟨⟨rfl,rfl⟩,rfl⟩:=hr;exact hx
 .simp only[Bool.and_eq_true,beq_iff_eq] at hr;obtain⟨⟨rfl,rfl⟩,rfl⟩:=hr;exact hx
 .cases hr
section
variable{P:Program}
def Uhl{ι:Type}{T0:Nat->Qcq}{cx0:Cx}(h0:TOk T0 cx0.ints)(hm:P.follows .mixedOrders=true){k:LC}{x:Code}{id:Nat}(hex:k.ex=.exit id)(T:ι->Nat->Qcq)(cx:ι->Cx)(C:∀ i,Qoa P (T i) (cx i))(hhp:∀ i,(cx i).hp=cx0.hp)(hcu:∀ i,(cx i).cuts=[])
  (inv:AS) (hlow:inv.low=true) (hok:∀ i,Qqt (cx i) inv=true) (hlow':k.post.low=true) (hok':Qqt cx0 k.post=true) (fuel:Nat) (μ:ι->Nat)
  (i0:ι) (pairs0:List (Nat×Nat)) (lits0:List (LV×Nat)) (hs:tlS (Ksi pairs0 lits0) k.pre inv=true) (hg:Qoc T0 (T i0) pairs0 lits0)
  (step:∀ i,(∃ j pairs lits,Ucx (cx i) fuel x inv pairs lits=true/\Qoc (T i) (T j) pairs lits/\μ j<μ i)\/(∃ pairs lits,Udb (cx i) fuel x inv id k.post pairs lits=true/\Qoc (T i) T0 pairs lits))
  (hdf:∀ i,(cx i).dfs=[]:=by intros;rfl):k.Ok P T0 cx0 x:=by
 intro hd0 A0 M w0 σ a w Q R hK;have key:∀ n i σ a w,μ i<n->Rel (T i) (cx i) A0 M w0 σ0 σ inv a w->Code.rounds P x Q n a w:=by
  intro n
  induction n with
  | zero=>intro i σ a w h;omega
  | succ n ih =>
   intro i σ a w hlt R;rw[rounds_succ];rcases step i with⟨j,pairs,lits,h1,h2,h3⟩|⟨pairs,lits,h1,h2⟩
   .unfold Ucx at h1
    split at h1
    .rename_i s1 he;refine(Qha (C i) hm (.inl (hcu i)) (fun q hq=>by rw[hcu i] at hq;cases hq) fuel (fun y _ q hq=>by rw[hcu i] at hq;cases hq) R he fun σ' a' w' R'=>?_).1;obtain⟨σ2,R2⟩:=R'.weaken (T':=T j) (cx':=cx j) (C j).table h2.gives (by rw[hhp i,hhp j]) (hok j) hlow h1 (by rw[hdf i,hdf j]);exact ih j σ2 a' w' (by omega) R2
    .cases h1
   .unfold Udb at h1
    split at h1
    .rename_i q s1 he;simp only[Bool.and_eq_true,beq_iff_eq] at h1;obtain⟨rfl,hle⟩:=h1;refine(Qha (C i) hm (.inl (hcu i)) (fun q hq=>by rw[hcu i] at hq;cases hq) fuel (fun y _ q hq=>by rw[hcu i] at hq;cases hq) R he fun σ' a' w' R'=>?_).1;obtain⟨σ2,R2⟩:=R'.weaken (T':=T0) (cx':=cx0) h0 h2.gives (hhp i).symm hok' hlow' hle (hd0.trans (hdf i).symm);have:=hK σ2 a' w' R2;rw[hex] at this;exact this
    .cases h1
 obtain⟨σ1,R1⟩:=R.weaken (T':=T i0) (cx':=cx i0) (C i0).table hg.gives (hhp i0) (hok i0) hlow hs ((hdf i0).trans hd0.symm);exact wp_loop_rounds (μ i0+1) (key _ i0 σ1 a w (by omega) R1)
def gcl(tys:List (TypeId×TyI))(hp:Bool)(L:List GF)(C:List (GC P L hp))(B:List (GB P L))(O:List (GO P L))(cuts:List LC):Cx:={ gcx tys hp L C B O with cuts }
def Uok{hp:Bool}{L:List GF}{tys:List (TypeId×TyI)}(ht:∀ p∈tys,p.2.good P p.1=true)(C:List (GC P L hp))(B:List (GB P L))(O:List (GO P L))(cuts:List LC):Qoa P (gT L) (gcl tys hp L C B O cuts) :=
 let h:=Qps ht C B O
 ⟨h.table,h.tys,h.calls,h.enters,h.bins,h.others,Udg _ rfl⟩
def Ugm{hp:Bool}{L:List GF}{tys:List (TypeId×TyI)}(ht:∀ p∈tys,p.2.good P p.1=true)(hm:P.follows .mixedOrders=true)(C:List (GC P L hp))(B:List (GB P L))(O:List (GO P L))(cuts:List LC){f:FuncId}{fn:Func}(hf:P.funcs[f]?=some fn)(fuel:Nat)(args:List AR)(res:AV)
  (hev:evF (gcl tys hp L C B O cuts) fn fuel args res=true) (hpre:cuts.all (fun k=>k.pre.low&&Qqt (gcl tys hp L C B O cuts) k.pre)=true) {c:Code} (hc:fn.body=some c) (hcut:∀ x∈Qfg c,∀ k∈cuts,Qsf x=some k.key->k.Ok P (gT L) (gcl tys hp L C B O cuts) x)
  (w:World) (A:Nat->Prop) (vs:List Value) (hR:hp=true->Rcv A w) (hA:∀ n,A n->n<w.heap.size) (hargs:okr (gT L) σ0 args vs w A) :
  Calls P f vs.toArray w fun r w'=>∃ v,r=.returned v/\res.ok (gT L) σ0 v w' A/\Below w.heap.size w w' :=
 Kdv (Uok ht C B O cuts) hm hf fuel hev (fun k hk=>axu.1 hpre k hk) (fun c' hc' x hx k hk hkey=>by rw[hc] at hc';cases hc';exact hcut x hx k hk hkey) σ0 w A vs hR hA hargs
end
end Tr
namespace Tr
open Go Go.RowKit
def Ksz(n:Nat)(l:List (Nat×AV)):List AV:=(List.range n).map fun i=>match l.find? fun p=>p.1==i with|some p=>p.2|none=>.junk
def Udc(fn:Func)(n:Nat):Code:=((fn.body.map Qfg).getD []).getD n .skip
def Qoj{T T':Nat->Qcq}{pairs:List (Nat×Nat)}{lits:List (LV×Nat)}(h1:∀ p∈pairs,T p.1=T' p.2)(h2:∀ p∈lits,∀ w A,T' p.2 p.1.val w A):Qoc T T' pairs lits :=
 ⟨fun p hp v w A h=>by rw[<-h1 p hp];exact h,h2⟩
end Tr
namespace Go.Proofs.YtmimficdpfmfgaaGreat
open Go.RowKit Tr Proofs.Tryz
def Uzb(x y:Nat):AS:={ tmps:=Ksz 28 [(4,.r (.c (.own 2 0))),(5,.r (.c (.sym x))),(6,.r (.c (.sym y)))],blocks:=[.dead,.dead,.live ⟨[.lit (.bool false),.lit .str0],24,none⟩] }
def Uza(g:Nat):AS:={ tmps:=Ksz 28 [(4,.r (.c (.own 2 0))),(5,.r (.c (.sym g)))],blocks:=[.dead,.dead,.live ⟨[.lit (.bool false),.lit .str0],24,none⟩] }
def Kyz:LC:={ key:=2,pre:=Uzb 4 5,ex:=.exit 0,post:=Uza 6 }
def Uoj(a b:Nat):List GF:=[gw (Qac a),gw (Qac b),gw (Qac (a/b)),gw (Qac (a%b)),gx (.int .i64 ((Qac b).length:Nat)),gx (.bool (decide (0<(Qac b).length)))]
structure Umf(g:Nat) where
 a:Nat
 b:Nat
 h:Nat.gcd a b=g
 la:WL a 536870912
 lb:WL b 536870912
def Uwt{g:Nat}(i:Umf g)(hp:Bool)(e:hp=true):List (GC prog (Uoj i.a i.b) hp) :=
 if h:0<i.b then[gm2 272 (.c (.sym 0)) (.c (.sym 1)) (.tup [.c (.sym 2),.c (.sym 3)]) eo272 (fun w A u v hR hu hv=>(Qmz i.a i.b h (i.la.mono (by decide)) w A u v (fun _=>hR e) hu hv).mono fun r w' ⟨v1,v2,h1,h2,h3,h4⟩=>⟨_,h1,⟨[v1,v2],rfl,h2,h3,trivial⟩,h4⟩)] else[]
def Uws{g:Nat}(i:Umf g):List (GB prog (Uoj i.a i.b)):=[Qgb .gtr 3 .i64 (.sym 4) (.lit (.int .i64 0)) ((Qac i.b).length:Nat) 0 (decide (0<i.b)) (by
  simp only[Qil];congr 1;have:(Qac i.b).length=0↔i.b=0:=by rw[List.length_eq_zero_iff,Qbz]
  simp only[gt_iff_lt,decide_eq_decide];omega) rfl rfl]
def Vbu{g:Nat}(i:Umf g):List (GO prog (Uoj i.a i.b)):=[Kar 228 (.c (.sym 1)) (.sym 4) (fun w A u ty hu=>Qkx (Qac i.b) w A u ty hu)]
def Uwu{g:Nat}(i:Umf g):Cx:=gcx tys true (Uoj i.a i.b) (Uwt i true rfl) (Uws i) (Vbu i)
def Kza(x y:Int)(g:Nat)(hg:Nat.gcd x.natAbs y.natAbs=g)(hx:WL x.natAbs 536870912)(hy:WL y.natAbs 536870912)(cx0:Cx)(hc0:cx0.hp=true/\cx0.ints=gI (cz x++cz y++[gw (Qac x.natAbs),gw (Qac y.natAbs),gw (Qac g)]++cz (g:Int))) :
  Kyz.Ok prog (gT (cz x++cz y++[gw (Qac x.natAbs),gw (Qac y.natAbs),gw (Qac g)]++cz (g:Int))) cx0 (Udc Tryz.f234 0):=by
 have ht0:TOk (gT (cz x++cz y++[gw (Qac x.natAbs),gw (Qac y.natAbs),gw (Qac g)]++cz (g:Int))) cx0.ints:=by
  rw[hc0.2];exact(Qps (P:=prog) (hp:=true) Qae [] [] []).table
 refine Uhl (ι:=Umf g) (id:=0) ht0 Qai rfl (fun i=>gT (Uoj i.a i.b)) Uwu (fun i=>Qps Qae _ _ _) (fun i=>hc0.1.symm) (fun i=>rfl) (Uzb 0 1) kR (fun i=>by kernel_rfl) kR
  (by unfold Qqt Qbp;rw[hc0.2];simp[Kyz,Uza,AC.noint,LV.isInt]) 60 (fun i=>i.b) ⟨x.natAbs,y.natAbs,hg,hx,hy⟩ [(4,0),(5,1)] [] kR
  (Qoj (by intro p hp;simp only[List.mem_cons,List.not_mem_nil,or_false] at hp;rcases hp with rfl|rfl<;>rfl) (by intro p hp;cases hp)) fun i=>?_
 obtain⟨a,b,h,la,lb⟩:=i
 by_cases hb:0<b
 .refine .inl ⟨⟨b,a%b,by rw[<-h,Nat.gcd_comm a b,Nat.gcd_rec b a,Nat.gcd_comm],lb,la.mod⟩,[(1,0),(3,1)],[],?_,Qoj (by intro p hp;simp only[List.mem_cons,List.not_mem_nil,or_false] at hp;rcases hp with rfl|rfl<;>rfl) (by intro p hp;cases hp),Nat.mod_lt _ hb⟩;unfold Uwu Uwt Uws;simp only[hb,dif_pos,decide_true];kernel_rfl
 .refine .inr ⟨[(0,6)],[],?_,Qoj (by
   intro p hp;simp only[List.mem_cons,List.not_mem_nil,or_false] at hp;subst hp;have hb0:b=0:=by omega
   subst hb0;rw[Nat.gcd_zero_right] at h;subst h;rfl) (by intro p hp;cases hp)⟩
  unfold Uwu Uwt Uws;simp only[hb,dif_neg,decide_false,not_false_eq_true];kernel_rfl
def Uya(x y:Int)(hx:WL x.natAbs 536870912)(hy:WL y.natAbs 536870912):PureC prog 234 [Qdu x,Qdu y] (Qdu ((Nat.gcd x.natAbs y.natAbs:Nat):Int)):=by
  intro w;obtain⟨g,hg⟩:∃ g,Nat.gcd x.natAbs y.natAbs=g:=⟨_,rfl⟩
  rw[hg];have hgl:WL g 536870912:=by
    rcases axh x.natAbs with h0|h0
    · rw[h0,Nat.gcd_zero_left] at hg;rw[<-hg];exact hy
    · rw[<-hg];exact Qfc (Nat.gcd_le_left _ h0) hx
  have hm:=Qsd false g (hgl.mono (by decide));rw[show sgn false g=(g:Int) from rfl] at hm;have:=Ugm (hp:=true) (L:=cz x++cz y++[gw (Qac x.natAbs),gw (Qac y.natAbs),gw (Qac g)]++cz (g:Int)) Qae Qai
    [gm1 236 (.c (.sym 1)) (.r (.c (.sym 4))) eo236 (Qdn _ (hx.mono (by decide))),gm1 236 (.c (.sym 3)) (.r (.c (.sym 5))) eo236 (Qdn _ (hy.mono (by decide))),Qum 220 (.c (.lit (.bool false))) (.c (.sym 6)) (.r (.row (zA 7))) eo220 hm] [] [] [Kyz]
    func234 100 [.row (zA 0),.row (zA 2)] (.r (.row (zA 7))) kR kR rfl (fun z hz k hk _=>by
      have e1:z=Udc Tryz.f234 0:=List.mem_singleton.1 hz;have e2:k=Kyz:=List.mem_singleton.1 hk;subst e1;subst e2;exact Kza x y g hg hx hy _ ⟨rfl,rfl⟩) w NoA [Qdu x,Qdu y] (fun _=>Qyh w) (fun _ h=>h.elim) ((Qoh rfl).2 rfl)
  exact this.mono fun r w' ⟨u,h1,h2,h3⟩=>⟨by rw[h1,(AV.gv_ok (u:=Qdu (g:Int)) rfl).1 h2],h3⟩
