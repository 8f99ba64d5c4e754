/- Laws. -/
import Derived.Test.YtcjjdooeogmdbaaGreatVas
set_option linter.all false
set_option maxHeartbeats 4000000
set_option maxRecDepth 100000
namespace Tr
open Go Go.RowKit
section
variable{P:Program}{L:List GF}
def Ksl(t:TypeId)(o:Oper):Bool:=match o.op with|.index u _ _=>u==t|_=>false
def Uct(s d:TypeId)(o:Oper):Bool:=match o.op with|.convert a b _=>a==s&&b==d|_=>false
def Umb(o:Oper):Bool:=match o.op with|.unOp .neg _ _=>true|_=>false
def Uma(t:TypeId)(o:Oper):Bool:=match o.op with|.call c=>(match c.callee with|.builtin .len=>(match c.argTypes.toList,c.args.toList with|[u],[_]=>u==t|_,_=>false)|_=>false)|_=>false
def Ufq(t:TypeId)(x i:AR)(res:AC){vx vi v:Value}(h:∀ w,(Instr.index t vx vi).run P w=.ok v w)(hx:x.gv L=some vx:=by rfl)(hi:i.gv L=some vi:=by rfl)(hr:res.gv L=some v:=by rfl):GO P L :=
 ⟨{ same:=Ksl t,args:=[x,i],res:=.r (.c res) },fun o ho σ ρ w A ha=>by
  obtain⟨dst,op,ty,pos,after,guard⟩:=o;unfold Ksl at ho;cases op<;>simp at ho;subst ho;rename_i a b;have h1:ρ a=vx:=(AR.gv_ok hx).1 ha.1;have h2:ρ b=vi:=(AR.gv_ok hi).1 ha.2.1;exact⟨v,by simp[execOp,h1,h2,h w],(AC.gv_ok hr).2 rfl⟩⟩
def Qwh(s d:TypeId)(x:AR)(res:AC){vx v:Value}(h:∀ w,(convert s d vx).run P w=.ok v w)(hx:x.gv L=some vx:=by rfl)(hr:res.gv L=some v:=by rfl):GO P L :=
 ⟨{ same:=Uct s d,args:=[x],res:=.r (.c res) },fun o ho σ ρ w A ha=>by
  obtain⟨dst,op,ty,pos,after,guard⟩:=o;unfold Uct at ho;cases op<;>simp at ho;obtain⟨rfl,rfl⟩:=ho;rename_i a;have h1:ρ a=vx:=(AR.gv_ok hx).1 ha.1;exact⟨v,by simp[execOp,h1,h w],(AC.gv_ok hr).2 rfl⟩⟩
def Kng(x:AR)(res:AC){vx v:Value}(h:∀ w,(Op.unary .neg vx).run P w=.ok v w)(hx:x.gv L=some vx:=by rfl)(hr:res.gv L=some v:=by rfl):GO P L :=
 ⟨{ same:=Umb,args:=[x],res:=.r (.c res) },fun o ho σ ρ w A ha=>by
  obtain⟨dst,op,ty,pos,after,guard⟩:=o;unfold Umb at ho;cases op<;>simp at ho;rename_i u t a;cases u<;>simp at ho;have h1:ρ a=vx:=(AR.gv_ok hx).1 ha.1;exact⟨v,by simp[execOp,h1,h w],(AC.gv_ok hr).2 rfl⟩⟩
def Kcd(t:TypeId)(x:AR)(res:AC){v:Value}(h:∀(w:World) (A:Nat->Prop) (u:Value) (ty:TypeId),x.ok (gT L) σ0 u w A->(Builtin.len_ #[t] ty #[u]).run P w=.ok v w)(hx:x.noown=true:=by rfl)(hr:res.gv L=some v:=by rfl):GO P L :=
 ⟨{ same:=Uma t,args:=[x],res:=.r (.c res) },fun o ho σ ρ w A ha=>by
  obtain⟨dst,op,ty,pos,after,guard⟩:=o;unfold Uma at ho;cases op<;>simp only[Bool.false_eq_true] at ho;rename_i c;obtain⟨callee,args,ats⟩:=c;cases callee<;>simp only[Bool.false_eq_true] at ho;rename_i b;cases b<;>simp only[Bool.false_eq_true] at ho
  split at ho
  .rename_i u y h1 h2;have e1:ats=#[t]:=by apply Array.toList_inj.1;rw[h1];simpa using ho
   have e2:args=#[y]:=by apply Array.toList_inj.1;rw[h2]
   subst e1;subst e2;have h3:=h w A (ρ y) ty (AR.ok_noown hx ha.1);exact⟨v,by simp[execOp,resolve,invoke,builtin,h3],(AC.gv_ok hr).2 rfl⟩
  .cases ho⟩
def Qxe(a:ByteArray):(a.toList==(⟨#[]⟩:ByteArray).toList)=decide (a=⟨#[]⟩):=by
 have h0:(⟨#[]⟩:ByteArray).toList=[]:=(toList_nil_iff_emptyBytes _).2 rfl;rw[h0,Bool.eq_iff_iff];simp only[beq_iff_eq,decide_eq_true_eq];exact toList_nil_iff_emptyBytes a
def Kgq(t:TypeId)(a:ByteArray)(c:Bool)(hc:decide (a=⟨#[]⟩)=c):∀(xo yo:Operand) (w:World),(do eqGuard .eql t xo yo (.string a) (.string ⟨#[]⟩);binOp .eql t (.string a) (.string ⟨#[]⟩):Sem Value).run P w=.ok (.bool c) w:=by
 intro xo yo w;rw[<-hc,<-Qxe];simp[eqGuard,binOp,Op.stringOp]
def Kup(t:TypeId)(a:ByteArray)(c:Bool)(hc:decide (a=⟨#[]⟩)=!c):∀(xo yo:Operand) (w:World),(do eqGuard .neq t xo yo (.string a) (.string ⟨#[]⟩);binOp .neq t (.string a) (.string ⟨#[]⟩):Sem Value).run P w=.ok (.bool c) w:=by
 intro xo yo w;rw[<-Qxe] at hc;have:c=!(a.toList==(⟨#[]⟩:ByteArray).toList):=by rw[hc];simp
 rw[this];simp[eqGuard,binOp,Op.stringOp]
def Qqm(op:BinOp)(t:TypeId)(xo yo:Operand)(a b:Bool)(w:World):(eqGuard op t xo yo (.bool a) (.bool b)).run P w=.ok () w:=by
 cases op<;>rfl
def Qxw{t:TypeId}(ht:P.underlying t=some .bool)(a b c:Bool)(hc:(a==b)=c):∀(xo yo:Operand) (w:World),(do eqGuard .eql t xo yo (.bool a) (.bool b);binOp .eql t (.bool a) (.bool b):Sem Value).run P w=.ok (.bool c) w:=by
 intro xo yo w;have e:binOp .eql t (.bool a) (.bool b)=(do pure (.bool (←Op.equal t (.bool a) (.bool b)))):=rfl;rw[Sem.run_bind,Qqm,Result.andThen_ok,e,Sem.run_bind,run_equal_bool _ t a b ht,Result.andThen_ok,hc];rfl
def Qrp{t:TypeId}(ht:P.underlying t=some .bool)(a b c:Bool)(hc:(a != b)=c):∀(xo yo:Operand) (w:World),(do eqGuard .neq t xo yo (.bool a) (.bool b);binOp .neq t (.bool a) (.bool b):Sem Value).run P w=.ok (.bool c) w:=by
 intro xo yo w;have e:binOp .neq t (.bool a) (.bool b)=(do pure (.bool (!(←Op.equal t (.bool a) (.bool b))))):=rfl;rw[Sem.run_bind,Qqm,Result.andThen_ok,e,Sem.run_bind,run_equal_bool _ t a b ht,Result.andThen_ok];rw[<-hc];rfl
def Qch(op:BinOp)(a b:Int):Option Bool:=match op with
 | .eql=>some (a==b)|.neq=>some (a != b)|.lss=>some (decide (a<b))|.leq=>some (decide (a<=b))|.gtr=>some (decide (a>b))|.geq=>some (decide (a>=b))|_=>none
def Kfv(op:BinOp)(t:TypeId)(k:IntKind)(a b:Int)(c:Bool)(hc:Qch op a b=some c):∀(xo yo:Operand) (w:World),(do eqGuard op t xo yo (.int k a) (.int k b);binOp op t (.int k a) (.int k b):Sem Value).run P w=.ok (.bool c) w:=by
 intro xo yo w;cases op<;>simp only[Qch,Option.some.injEq] at hc<;>first|(cases hc;done)|(subst hc;simp[eqGuard,binOp,Op.intCmp])
def Qlj(op:BinOp)(t:TypeId)(k:IntKind)(x y:AC)(a b:Int)(c:Bool)(h:Qch op a b=some c)(hx:x.gv L=some (.int k a):=by rfl)(hy:y.gv L=some (.int k b):=by rfl):GB P L:=gb op t (.c x) (.c y) (.lit (.bool c)) (Kfv op t k a b c h) hx hy rfl
def Kfs(t:TypeId)(ht:P.underlying t=some .bool)(a b:Bool):GB P L:=gb .neq t (.c (.lit (.bool a))) (.c (.lit (.bool b))) (.lit (.bool (a != b))) (Qrp ht a b _ rfl) rfl rfl rfl
end
end Tr
namespace Go.Proofs.YtcjjdooeogmdbaaGreat
open Go.RowKit Tr Proofs.Tryz
def Klb{n:Nat}:decide (Qcj n=⟨#[]⟩)=decide (n=0):=by
 by_cases h:n=0
 .subst h;simp[Qcj,Qdg]
 .have h1:Qcj n≠⟨#[]⟩:=fun e=>by
   have h2:=Qgg n;rw[e] at h2;have h3:(Qec n).length=0:=h2.symm;rw[Qef (by omega)] at h3;simp at h3
  simp[h,h1]
def Ult{P:Program}{L:List GF}(t:TypeId)(i n:Nat)(c:Bool)(h:decide (n=0)=c)(hx:(AC.sym i).gv L=some (.string (Qcj n)):=by rfl):GB P L:=gb .eql t (.c (.sym i)) (.c (.lit .str0)) (.lit (.bool c)) (Kgq t (Qcj n) c (by rw[Klb];exact h)) hx rfl rfl
def Ulu{P:Program}{L:List GF}(t:TypeId)(i n:Nat)(c:Bool)(h:decide (n=0)=!c)(hx:(AC.sym i).gv L=some (.string (Qcj n)):=by rfl):GB P L:=gb .neq t (.c (.sym i)) (.c (.lit .str0)) (.lit (.bool c)) (Kup t (Qcj n) c (by rw[Klb];exact h)) hx rfl rfl
def Ksd{P:Program}{L:List GF}(t:TypeId):GB P L:=gb .eql t (.c (.lit .str0)) (.c (.lit .str0)) (.lit (.bool true)) (Kgq t ⟨#[]⟩ true (by simp)) rfl rfl rfl
def Qnv{z:Int}(h:z<0):Qfh z=.agg #[.bool true,.string (Qcj z.natAbs)]:=by unfold Qfh;simp[h]
def Qnw{z:Int}(h:0<=z):Qfh z=.agg #[.bool false,.string (Qcj z.natAbs)]:=by unfold Qfh;simp;omega
def Kgo(z:Int):PureC prog 126 [Qfh z] (.int .i64 z.sign):=by
 rcases Int.lt_trichotomy z 0 with h|h|h
 .rw[Qnv h,Int.sign_eq_neg_one_of_neg h];exact Qay (hp:=false) (L:=[gx (.string (Qcj z.natAbs))]) Qai Qap [] [Ult 9 0 z.natAbs false (by simp;omega)] []
   func126 60 [.row [.lit (.bool true),.sym 0]] (.r (.c (.lit (.int .i64 (-1))))) (by kernel_rfl)
 .subst h;rw[Qso];exact Qay (hp:=false) (L:=[]) Qai Qap [] [Ksd 9] [] func126 60 [.row [.lit (.bool false),.lit .str0]] (.r (.c (.lit (.int .i64 0)))) (by kernel_rfl)
 .rw[Qnw (by omega),Int.sign_eq_one_of_pos h];exact Qay (hp:=false) (L:=[gx (.string (Qcj z.natAbs))]) Qai Qap [] [Ult 9 0 z.natAbs false (by simp;omega)] []
   func126 60 [.row [.lit (.bool false),.sym 0]] (.r (.c (.lit (.int .i64 1)))) (by kernel_rfl)
def Qto(neg:Bool)(s:ByteArray)(b:Bool)(hb:b=true↔Qlc neg s):PureC prog 198 [.agg #[.bool neg,.string s]] (.bool b):=by
  by_cases h0:s.size=0
  · have e : s = ⟨#[]⟩ := by
      cases s with|mk d=>have:d=#[]:=Array.eq_empty_of_size_eq_zero h0;rw[this]
    subst e;have e2:b=!neg:=by
      rw[Bool.eq_iff_iff,hb];constructor
      · intro h;have:=h.1 h0;simp[this]
      · intro h;simp at h;exact⟨fun _=>h,fun x l e=>by cases e⟩
    subst e2;cases neg
    · exact Qay (hp:=false) (L:=[]) Qai Qap [] [Ksd 9] [] func198 60 [.row [.lit (.bool false),.lit .str0]] (.r (.c (.lit (.bool true)))) (by kernel_rfl)
    · exact Qay (hp:=false) (L:=[]) Qai Qap [] [Ksd 9] [] func198 60 [.row [.lit (.bool true),.lit .str0]] (.r (.c (.lit (.bool false)))) (by kernel_rfl)
  · have hs:0<s.size:=by omega
    have e2:b=!((s[0].toNat:Int)==0):=by
      rw[Bool.eq_iff_iff,hb];obtain⟨x,l,hx⟩:∃ x l,s.data.toList=x::l:=by
        cases hq:s.data.toList with
        | nil => have h9 : s.data.size = 0 := by rw [<- Array.length_toList,hq];rfl
                 exact absurd h9 h0
        | cons x l=>exact⟨x,l,rfl⟩
      have e3:s[0]=x:=by
        have h9:s.data.toList[0]?=some x:=by rw[hx];rfl
        have h8:s.data[0]?=some x:=by simpa using h9
        have h7:s.data[0]'hs=x:=(Array.getElem?_eq_some_iff.1 h8).2;exact h7
      rw[e3];constructor
      · intro h;have:=h.2 x l hx;simp only[Bool.not_eq_true',beq_eq_false_iff_ne,ne_eq];intro e;apply this;apply UInt8.toNat_inj.1;simp at e ⊢;omega
      · intro h;refine⟨fun h'=>absurd h' h0,fun y m e=>?_⟩;rw[hx] at e;cases e;intro e;subst e;simp at h
    exact Qay (hp:=false) (L:=[gx (.string s),gx (.bool neg),gx (.int .u8 s[0].toNat),gx (.bool b)]) Qai Qap []
      [gb .eql 9 (.c (.sym 0)) (.c (.lit .str0)) (.lit (.bool false)) (Kgq _ s false (by simp only[decide_eq_false_iff_not];intro e;subst e;exact h0 rfl)) rfl rfl rfl,gb .neq 5 (.c (.sym 2)) (.c (.lit (.int .u8 0))) (.sym 3) (Kfv .neq _ .u8 _ _ _ (by rw[e2];rfl)) rfl rfl rfl]
      [Ufq 9 (.c (.sym 0)) (.c (.lit (.int .i64 0))) (.sym 2) (fun w=>by
        show(Instr.index 9 (.string s) (.int .i64 0)).run _ w=_;rw[run_index_string w 9 s .i64 0 Tryz.underlying9,dif_pos ⟨by omega,by omega⟩];rfl) rfl rfl rfl]
      func198 60 [.row [.sym 1,.sym 0]] (.r (.c (.sym 3))) (by kernel_rfl)
end Go.Proofs.YtcjjdooeogmdbaaGreat
namespace Tr
open Go Go.RowKit
end Tr
namespace Go.Proofs.YtcjjdooeogmdbaaGreat
open Go.RowKit Tr Proofs.Tryz
def WsF(l:List Nat):Qcp:=fun v w A=>Qkv A w v l
def gw(l:List Nat):GF where
 R:=WsF l
 int:=false
 keeps:=fun v w w' A A' hs hk h=>Qkv.keep hs hk h
 cell:=fun v w A ⟨p,c,e,_⟩=>by rw[e];rfl
 noint:=fun _ v w A ⟨p,c,e,_⟩ k x e2=>by rw[e] at e2;cases e2
 ex:=none
 exact:=fun u e=>by cases e
def WL(n k:Nat):Prop:=(Qad n).length<=k
def WL.mono{n j k:Nat}(h:WL n j)(hk:j<=k):WL n k:=Nat.le_trans h hk
def WL.size{n k:Nat}(h:WL n k):(Qcj n).size<=4*k:=by
 rw[Qgg];refine Qjj (Nat.lt_of_lt_of_le (Qcc n) ?_);rw[show(256:Nat)^(4*k)=4294967296^k by rw[Nat.pow_mul]];exact Nat.pow_le_pow_right (by decide) h
def Qdu(n:Nat)(hn:WL n 1073741824)(w:World)(A:Nat->Prop)(u:Value)(hR:true=true->Rcv A w)(hu:u=.string (Qcj n)) :
  Calls prog 209 #[u] w fun r w'=>∃ v,r=.returned v/\WsF (Qad n) v w' A/\Below w.heap.size w w':=by
 subst hu;exact(Kot n (by have:=hn.size;omega) w).mono fun e w' ⟨v,h1,h2,h3⟩=>⟨v,h1,h2.avoids ((hR rfl).below h3),h3⟩
def Qss(neg:Bool)(n:Nat)(hn:WL n 8589934592)(w:World)(A:Nat->Prop)(u v:Value)(hR:true=true->Rcv A w)(hu:u=.bool neg)(hv:WsF (Qad n) v w A) :
  Calls prog 179 #[u,v] w fun r w'=>r=.returned (Qfh (sgn neg n))/\Below w.heap.size w w':=by
 subst hu;have:=Kdv neg (Qad n) v w (Qas n) hv.wsl (by have h1:(Qad n).length<=8589934592:=hn;omega);rw[Qaq] at this;exact this
def Utr(a b:Nat)(ha:WL a 8589934592)(hb:WL b 8589934592)(w:World)(A:Nat->Prop)(u v:Value)(hR:true=true->Rcv A w)(hu:WsF (Qad a) u w A)(hv:WsF (Qad b) v w A) :
  Calls prog 234 #[u,v] w fun r w'=>∃ v,r=.returned v/\WsF (Qad (a+b)) v w' A/\Below w.heap.size w w':=by
 have h1:(Qad a).length<=8589934592:=ha;have h2:(Qad b).length<=8589934592:=hb;have:=Kuh (Qad a) (Qad b) u v w (Qas a) (Qas b) hu.wsl hv.wsl (by omega) (by omega);rw[Qaq,Qaq] at this;exact this.mono fun e w' ⟨v,h1,h2,h3⟩=>⟨v,h1,h2.avoids ((hR rfl).below h3),h3⟩
def Uls(a b:Nat)(hba:b<=a)(ha:WL a 8589934592)(w:World)(A:Nat->Prop)(u v:Value)(hR:true=true->Rcv A w)(hu:WsF (Qad a) u w A)(hv:WsF (Qad b) v w A) :
  Calls prog 235 #[u,v] w fun r w'=>∃ v,r=.returned v/\WsF (Qad (a-b)) v w' A/\Below w.heap.size w w':=by
 have h1:(Qad a).length<=8589934592:=ha;have hl:(Qad b).length<=(Qad a).length:=Qak (Nat.lt_of_le_of_lt hba (Qcc a));have:=Kue (Qad a) (Qad b) u v w (Qas a) (Qas b) (by rw[Qaq,Qaq];exact hba) hl hu.wsl hv.wsl (by omega);rw[Qaq,Qaq] at this;exact this.mono fun e w' ⟨v,h1,h2,h3⟩=>⟨v,h1,h2.avoids ((hR rfl).below h3),h3⟩
def Ksc(a b:Nat)(ha:WL a 8589934592)(w:World)(A:Nat->Prop)(u v:Value)(hR:true=true->Rcv A w)(hu:WsF (Qad a) u w A)(hv:WsF (Qad b) v w A) :
  Calls prog 210 #[u,v] w fun r w'=>r=.returned (.int .i64 (Qgh a b))/\Below w.heap.size w w':=by
 have h1:(Qad a).length<=8589934592:=ha;exact(Qjt a b u v w hu.wsl hv.wsl (by omega)).mono fun e w' ⟨h1,n,h2⟩=>⟨h1,by rw[h2];exact Qbv br n⟩
def Kyu(a b:Nat)(ha:WL a 8589934592)(hb:WL b 8589934592)(w:World)(A:Nat->Prop)(u v:Value)(hR:true=true->Rcv A w)(hu:WsF (Qad a) u w A)(hv:WsF (Qad b) v w A) :
  Calls prog 208 #[u,v] w fun r w'=>∃ v,r=.returned v/\WsF (Qad (a*b)) v w' A/\Below w.heap.size w w':=by
 have h1:(Qad a).length<=8589934592:=ha;have h2:(Qad b).length<=8589934592:=hb;have:=Qqw (Qad a) (Qad b) u v w (Qas a) (Qas b) hu.wsl hv.wsl (by omega) (by omega);rw[Qaq,Qaq] at this;exact this.mono fun e w' ⟨v,h1,h2,h3⟩=>⟨v,h1,h2.avoids ((hR rfl).below h3),h3⟩
def Qny(a b:Nat)(hb0:0<b)(ha:WL a 8589934592)(w:World)(A:Nat->Prop)(u v:Value)(hR:true=true->Rcv A w)(hu:WsF (Qad a) u w A)(hv:WsF (Qad b) v w A) :
  Calls prog 221 #[u,v] w fun r w'=>∃ v1 v2,r=.returned (.tuple #[v1,v2])/\WsF (Qad (a/b)) v1 w' A/\WsF (Qad (a%b)) v2 w' A/\Below w.heap.size w w':=by
 have h1:(Qad a).length<=8589934592:=ha;exact(Kdn a b u v w hu.wsl hv.wsl hb0 (by omega)).mono fun e w' ⟨v1,v2,h1,h2,h3,h4⟩=>⟨v1,v2,h1,h2.avoids ((hR rfl).below h4),h3.avoids ((hR rfl).below h4),h4⟩
def Uvo(z:Int):PureC prog 182 [Qfh z] (Qfh (-z)):=by
 rcases Int.lt_trichotomy z 0 with h|h|h
 .rw[Qnv h,Qnw (show 0<=-z by omega),Int.natAbs_neg];exact Qay (hp:=false) (L:=[gx (.string (Qcj z.natAbs))]) Qai Qap [] [] [] func182 60 [.row [.lit (.bool true),.sym 0]] (.r (.row [.lit (.bool false),.sym 0])) (by kernel_rfl)
 .subst h;rw[Int.neg_zero,Qso];exact Qay (hp:=false) (L:=[]) Qai Qap [] [gb .neq 9 (.c (.lit .str0)) (.c (.lit .str0)) (.lit (.bool false)) (Kup _ ⟨#[]⟩ false (by simp)) rfl rfl rfl] [] func182 60 [.row [.lit (.bool false),.lit .str0]] (.r (.row [.lit (.bool false),.lit .str0])) (by kernel_rfl)
 .rw[Qnw (show 0<=z by omega),Qnv (show -z<0 by omega),Int.natAbs_neg];exact Qay (hp:=false) (L:=[gx (.string (Qcj z.natAbs))]) Qai Qap [] [Ulu 9 0 z.natAbs true (by simp;omega)] [] func182 60 [.row [.lit (.bool false),.sym 0]] (.r (.row [.lit (.bool true),.sym 0])) (by kernel_rfl)
def Uys(z:Int):PureC prog 223 [Qfh z] (Qfh (z.natAbs:Int)):=by
 rw[Qnw (show 0<=(z.natAbs:Int) by omega),Int.natAbs_natCast];exact Qay (hp:=false) (L:=[gx (.bool (decide (z<0))),gx (.string (Qcj z.natAbs))]) Qai Qap [] [] [] func223 60 [.row [.sym 0,.sym 1]] (.r (.row [.lit (.bool false),.sym 1])) (by kernel_rfl)
def cz(z:Int):List GF:=[gx (.bool (decide (z<0))),gx (.string (Qcj z.natAbs))]
def zA(i:Nat):List AC:=[.sym i,.sym (i+1)]
def Kop(neg:Bool)(a b:Nat)(ha:WL a 1073741824)(hb:WL b 1073741824):PureC prog 199 [.agg #[.bool neg,.string (Qcj a)],.agg #[.bool neg,.string (Qcj b)]] (Qfh (sgn neg (a+b))):=by
  have hs:WL (a+b) 8589934592:=by
    have:=Ked (k:=1073741824) ha hb;exact Nat.le_trans this (by decide)
  exact Qay (hp:=true) (L:=[gx (.bool neg),gx (.string (Qcj a)),gx (.string (Qcj b)),gw (Qad a),gw (Qad b),gw (Qad (a+b))]++cz (sgn neg (a+b))) Qai Qap
    [gm1 209 (.c (.sym 1)) (.r (.c (.sym 3))) eo209 (Qdu a ha),gm1 209 (.c (.sym 2)) (.r (.c (.sym 4))) eo209 (Qdu b hb),gm2 234 (.c (.sym 3)) (.c (.sym 4)) (.r (.c (.sym 5))) eo234 (Utr a b (ha.mono (by decide)) (hb.mono (by decide))),Qva 179 (.c (.sym 0)) (.c (.sym 5)) (.r (.row (zA 6))) eo179 (Qss neg (a+b) hs)]
    [gb .eql 4 (.c (.sym 0)) (.c (.sym 0)) (.lit (.bool true)) (Qxw Tryz.underlying4 neg neg true (by simp)) rfl rfl rfl] []
    func199 100 [.row [.sym 0,.sym 1],.row [.sym 0,.sym 2]] (.r (.row (zA 6))) (by kernel_rfl)
def Kdw(neg:Bool)(a b:Nat)(ha:WL a 1073741824)(hb:WL b 1073741824)(hba:b<=a):PureC prog 199 [.agg #[.bool neg,.string (Qcj a)],.agg #[.bool !neg,.string (Qcj b)]] (Qfh (sgn neg (a-b))):=by
  have hs:WL (a-b) 8589934592:=Nat.le_trans (Qfx (Nat.sub_le a b) ha) (by decide);exact Qay (hp:=true) (L:=[gx (.bool neg),gx (.string (Qcj a)),gx (.string (Qcj b)),gw (Qad a),gw (Qad b),gw (Qad (a-b)),gx (.bool !neg),gx (.int .i64 (Qgh a b))]++cz (sgn neg (a-b))) Qai Qap
    [gm1 209 (.c (.sym 1)) (.r (.c (.sym 3))) eo209 (Qdu a ha),gm1 209 (.c (.sym 2)) (.r (.c (.sym 4))) eo209 (Qdu b hb),Qva 210 (.c (.sym 3)) (.c (.sym 4)) (.r (.c (.sym 7))) eo210 (Ksc a b (ha.mono (by decide))),gm2 235 (.c (.sym 3)) (.c (.sym 4)) (.r (.c (.sym 5))) eo235 (Uls a b hba (ha.mono (by decide))),Qva 179 (.c (.sym 0)) (.c (.sym 5)) (.r (.row (zA 8))) eo179 (Qss neg (a-b) hs)]
    [gb .eql 4 (.c (.sym 0)) (.c (.sym 6)) (.lit (.bool false)) (Qxw Tryz.underlying4 neg (!neg) false (by simp)) rfl rfl rfl,Qlj .geq 3 .i64 (.sym 7) (.lit (.int .i64 0)) (Qgh a b) 0 true (by have:=Qvr hba;simp[Qch];omega) rfl rfl] []
    func199 100 [.row [.sym 0,.sym 1],.row [.sym 6,.sym 2]] (.r (.row (zA 8))) (by kernel_rfl)
def Qzw(neg:Bool)(a b:Nat)(ha:WL a 1073741824)(hb:WL b 1073741824)(hab:a<b):PureC prog 199 [.agg #[.bool neg,.string (Qcj a)],.agg #[.bool !neg,.string (Qcj b)]] (Qfh (sgn (!neg) (b-a))):=by
  have hs:WL (b-a) 8589934592:=Nat.le_trans (Qfx (Nat.sub_le b a) hb) (by decide);exact Qay (hp:=true) (L:=[gx (.bool neg),gx (.string (Qcj a)),gx (.string (Qcj b)),gw (Qad a),gw (Qad b),gw (Qad (b-a)),gx (.bool !neg),gx (.int .i64 (Qgh a b))]++cz (sgn (!neg) (b-a))) Qai Qap
    [gm1 209 (.c (.sym 1)) (.r (.c (.sym 3))) eo209 (Qdu a ha),gm1 209 (.c (.sym 2)) (.r (.c (.sym 4))) eo209 (Qdu b hb),Qva 210 (.c (.sym 3)) (.c (.sym 4)) (.r (.c (.sym 7))) eo210 (Ksc a b (ha.mono (by decide))),gm2 235 (.c (.sym 4)) (.c (.sym 3)) (.r (.c (.sym 5))) eo235 (Uls b a (by omega) (hb.mono (by decide))),Qva 179 (.c (.sym 6)) (.c (.sym 5)) (.r (.row (zA 8))) eo179 (Qss (!neg) (b-a) hs)]
    [gb .eql 4 (.c (.sym 0)) (.c (.sym 6)) (.lit (.bool false)) (Qxw Tryz.underlying4 neg (!neg) false (by simp)) rfl rfl rfl,Qlj .geq 3 .i64 (.sym 7) (.lit (.int .i64 0)) (Qgh a b) 0 false (by have:=Kir hab;simp[Qch];omega) rfl rfl] []
    func199 100 [.row [.sym 0,.sym 1],.row [.sym 6,.sym 2]] (.r (.row (zA 8))) (by kernel_rfl)
def Uhl(x y:Int)(hx:WL x.natAbs 1073741824)(hy:WL y.natAbs 1073741824):PureC prog 199 [Qfh x,Qfh y] (Qfh (x+y)):=by
 unfold Qfh
 by_cases h:decide (x<0)=decide (y<0)
 .rw[<-h];have:=Kop (decide (x<0)) x.natAbs y.natAbs hx hy;have e:sgn (decide (x<0)) (x.natAbs+y.natAbs)=x+y:=by
   unfold sgn
   by_cases hx0:x<0<;>simp[hx0] at h ⊢<;>omega
  rw[e] at this;exact this
 .have h':decide (y<0)=!decide (x<0):=by cases hq:decide (x<0)<;>cases hr:decide (y<0)<;>simp_all
  rw[h']
  by_cases hba:y.natAbs<=x.natAbs
  .have:=Kdw (decide (x<0)) x.natAbs y.natAbs hx hy hba;have e:sgn (decide (x<0)) (x.natAbs-y.natAbs)=x+y:=by
    unfold sgn
    by_cases hx0:x<0<;>simp[hx0] at h' ⊢<;>omega
   rw[e] at this;exact this
  .have:=Qzw (decide (x<0)) x.natAbs y.natAbs hx hy (by omega);have e:sgn (!decide (x<0)) (y.natAbs-x.natAbs)=x+y:=by
    unfold sgn
    by_cases hx0:x<0<;>simp[hx0] at h' ⊢<;>omega
   rw[e] at this;exact this
def Udm(x y:Int)(hx:WL x.natAbs 1073741824)(hy:WL y.natAbs 1073741824):PureC prog 222 [Qfh x,Qfh y] (Qfh (x-y)) :=
  Qay (hp:=false) (L:=cz x++cz y++cz (-y)++cz (x-y)) Qai Qap
    [gp 182 [.row (zA 2)] (.r (.row (zA 4))) eo182 (Uvo y) rfl rfl,gp 199 [.row (zA 0),.row (zA 4)] (.r (.row (zA 6))) eo199 (Uhl x (-y) hx (by rw[Int.natAbs_neg];exact hy)) rfl rfl] [] []
    func222 100 [.row (zA 0),.row (zA 2)] (.r (.row (zA 6))) (by kernel_rfl) rfl rfl
def Kla(x y:Int)(hx:WL x.natAbs 1073741824)(hy:WL y.natAbs 1073741824):PureC prog 164 [Qfh x,Qfh y] (Qfh (x*y)):=by
  have hs:WL (x.natAbs*y.natAbs) 8589934592:=Nat.le_trans (Qgt hx hy) (by decide);have e:sgn (decide (x<0) != decide (y<0)) (x.natAbs*y.natAbs)=x*y:=by
    have h0:=Int.natAbs_mul x y;rw[<-h0];unfold sgn;rcases Int.lt_trichotomy x 0 with h1|h1|h1<;>rcases Int.lt_trichotomy y 0 with h2|h2|h2
    · have:=Int.mul_pos_of_neg_of_neg h1 h2;simp[h1,h2];omega
    · subst h2;simp
    · have:=Int.mul_neg_of_neg_of_pos h1 h2;have h3:¬y<0:=by omega
      simp[h1,h3];omega
    · subst h1;simp
    · subst h1;simp
    · subst h1;simp
    · have:=Int.mul_neg_of_pos_of_neg h1 h2;have h3:¬x<0:=by omega
      simp[h3,h2];omega
    · subst h2;simp
    · have:=Int.mul_pos h1 h2;have h3:¬x<0:=by omega
      have h4:¬y<0:=by omega
      simp[h3,h4];omega
  have hm:=Qss (decide (x<0) != decide (y<0)) (x.natAbs*y.natAbs) hs;rw[e] at hm;exact Qay (hp:=true) (L:=cz x++cz y++[gx (.bool (decide (x<0) != decide (y<0))),gw (Qad x.natAbs),gw (Qad y.natAbs),gw (Qad (x.natAbs*y.natAbs))]++cz (x*y)) Qai Qap
    [gm1 209 (.c (.sym 1)) (.r (.c (.sym 5))) eo209 (Qdu _ hx),gm1 209 (.c (.sym 3)) (.r (.c (.sym 6))) eo209 (Qdu _ hy),gm2 208 (.c (.sym 5)) (.c (.sym 6)) (.r (.c (.sym 7))) eo208 (Kyu _ _ (hx.mono (by decide)) (hy.mono (by decide))),Qva 179 (.c (.sym 4)) (.c (.sym 7)) (.r (.row (zA 8))) eo179 hm]
    [gb .neq 4 (.c (.sym 0)) (.c (.sym 2)) (.sym 4) (Qrp Tryz.underlying4 _ _ _ rfl) rfl rfl rfl] []
    func164 100 [.row (zA 0),.row (zA 2)] (.r (.row (zA 8))) (by kernel_rfl) rfl rfl
