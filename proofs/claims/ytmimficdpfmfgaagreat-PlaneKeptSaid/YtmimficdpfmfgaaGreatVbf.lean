/- Laws for the walk. -/
import Derived.Test.YtmimficdpfmfgaaGreatVba
import Derived.Test.YtmimficdpfmfgaaGreatVbc
set_option linter.unusedVariables false
set_option maxHeartbeats 4000000
set_option maxRecDepth 100000
namespace Tr
open Go Go.RowKit
theorem RL.mn{q:Rat}{k l:Nat}(h:RL q k)(hl:k≤l:=by omega):RL q l:=h.mono hl
def qS(n:Nat):List AC:=[.sym n,.sym (n+1),.lit (.bool false),.sym (n+2)]
abbrev li(n:Int):AC:=.lit (.int .i64 n)
abbrev lc(n:Int):AR:=.c (.lit (.int .i64 n))
abbrev cS(n:Nat):AR:=.c (.sym n)
abbrev rS(n:Nat):AV:=.r (.c (.sym n))
abbrev rQ(n:Nat):AV:=.r (.row (qS n))
abbrev lTt:AC:=.lit (.bool true)
abbrev lFf:AC:=.lit (.bool false)
abbrev cTt:AR:=.c (.lit (.bool true))
abbrev cFf:AR:=.c (.lit (.bool false))
abbrev vTt:AV:=.r (.c (.lit (.bool true)))
abbrev vFf:AV:=.r (.c (.lit (.bool false)))
abbrev yQ(n:Nat):AR:=.row (qS n)
abbrev gxi(n:Int):GF:=gx (.int .i64 n)
abbrev gTt:FR:=.c (gl (.bool true))
abbrev gFf:FR:=.c (gl (.bool false))
abbrev gIi(n:Int):FR:=.c (gl (.int .i64 n))
end Tr
namespace Go.Proofs.YtmimficdpfmfgaaGreat
open Go.RowKit Tr
theorem ZL.mn{z:QC}{k l:Nat}(h:ZL z k)(hl:k≤l:=by omega):ZL z l:=h.mono hl
theorem ri(n:Int){k:Nat}(h0:-9223372036854775808≤n:=by decide)(h1:n<9223372036854775808:=by decide)(h:2≤k:=by omega):RL (n:Rat) k:=(RL_i64 n h0 h1).mono h
theorem rj(n:Int)(h0:-9223372036854775808≤n:=by decide)(h1:n<9223372036854775808:=by decide):RL (n:Rat) 2:=RL_i64 n h0 h1
theorem rk(q:Rat){k:Nat}(h:(decide ((Qac q.num.natAbs).length≤1) && decide ((Qac q.den).length≤1))=true:=by decide +kernel)(hk:1≤k:=by omega):RL q k:=(RL_k q 1 h).mono hk
theorem rl(q:Rat)(h:(decide ((Qac q.num.natAbs).length≤1) && decide ((Qac q.den).length≤1))=true:=by decide +kernel):RL q 1:=RL_k q 1 h
theorem zk(z:QC){k:Nat}(h:(z.re.num.natAbs<256 ^ 1024∧z.re.den<256 ^ 1024)∧z.im.num.natAbs<256 ^ 1024∧z.im.den<256 ^ 1024:=by decide +kernel)(hk:1024≤k:=by omega):ZL z k:=(Qaa (Qbc h)).mono hk
theorem pgi(i j:Int)(a1:-9223372036854775808≤i:=by decide)(a2:i<9223372036854775808:=by decide)(b1:-9223372036854775808≤j:=by decide)(b2:j<9223372036854775808:=by decide):Qay Tryz.prog false 73 [.c (gx (.int .i64 i)),.c (gx (.int .i64 j))] (.r (.row (Qad ⟨(i:Rat),(j:Rat)⟩).cells)):=pGInt i j a1 a2 b1 b2
abbrev yR(n k:Nat):AR:=.row (Qaj n k)
abbrev SCt:=Qay Tryz.prog true
abbrev SMt:=SpecM Tryz.prog true
abbrev hN1(z:QC):Prop:=¬(z.im.num.sign≤0)
abbrev hO1(z:QC):Prop:=z.im.num.sign≤0
abbrev hN2(z:QC):Prop:=¬((((1:Rat) - (nm z)).num.sign)≤0)
abbrev hO2(z:QC):Prop:=(((1:Rat) - (nm z)).num.sign)≤0
theorem cbF{p:Prop}[Decidable p](h:¬p):some (decide p)=some false:=congrArg some (decide_eq_false h)
theorem cbT{p:Prop}[Decidable p](h:p):some (decide p)=some true:=congrArg some (decide_eq_true h)
def bLt{P:Program}{L:List GF}(t:TypeId)(s:Nat){v:Int}(h:v≤0)(hx:(AC.sym s).gv L=some (.int .i64 v):=by kernel_rfl):GB P L:=bI .leq t (.sym s) (.lit (.int .i64 0)) v 0 true (by simp only[Qed]; exact cbT h) hx rfl
def bLf{P:Program}{L:List GF}(t:TypeId)(s:Nat){v:Int}(h:¬v≤0)(hx:(AC.sym s).gv L=some (.int .i64 v):=by kernel_rfl):GB P L:=bI .leq t (.sym s) (.lit (.int .i64 0)) v 0 false (by simp only[Qed]; exact cbF h) hx rfl
def gpi{L:List GF}(i j:Int)(n:Nat)(hr:(AV.r (.row (Qaj n 8))).lk L=some (.r (.row (Qad (⟨(i:Rat),(j:Rat)⟩:QC)).cells)):=by kernel_rfl)(a1:-9223372036854775808≤i:=by decide)(a2:i<9223372036854775808:=by decide)(b1:-9223372036854775808≤j:=by decide)(b2:j<9223372036854775808:=by decide):GC Tryz.prog L true:=gs (pgi i j a1 a2 b1 b2) [lc i,lc j] (.r (.row (Qaj n 8))) rfl hr rfl
theorem pnr(i:Int)(a1:-9223372036854775808≤i:=by decide)(a2:i<9223372036854775808:=by decide):Qay Tryz.prog true 177 [.c (gx (.int .i64 i)),.c (gx (.int .i64 1))] (.r (R1 (Rat.divInt i 1))):=pNewRat i 1 a1 a2 (by decide) (by decide) (by decide)
end Go.Proofs.YtmimficdpfmfgaaGreat
namespace Go.Proofs.YtmimficdpfmfgaaGreat
open Go.RowKit Tr
theorem fs13 {l:List Tr.Fn}(h:FnsOk Tryz.prog l):FnsOk Tryz.prog (⟨13,Tryz.f13,2000⟩::l):=.cons (n:=2000) Tryz.func13 eo13 h
theorem fs18 {l:List Tr.Fn}(h:FnsOk Tryz.prog l):FnsOk Tryz.prog (⟨18,Tryz.f18,2000⟩::l):=.cons (n:=2000) Tryz.func18 eo18 h
theorem fs40 {l:List Tr.Fn}(h:FnsOk Tryz.prog l):FnsOk Tryz.prog (⟨40,Tryz.f40,2000⟩::l):=.cons (n:=2000) Tryz.func40 eo40 h
theorem fs47 {l:List Tr.Fn}(h:FnsOk Tryz.prog l):FnsOk Tryz.prog (⟨47,Tryz.f47,2000⟩::l):=.cons (n:=2000) Tryz.func47 eo47 h
theorem fs53 {l:List Tr.Fn}(h:FnsOk Tryz.prog l):FnsOk Tryz.prog (⟨53,Tryz.f53,2000⟩::l):=.cons (n:=2000) Tryz.func53 eo53 h
theorem fs66 {l:List Tr.Fn}(h:FnsOk Tryz.prog l):FnsOk Tryz.prog (⟨66,Tryz.f66,2000⟩::l):=.cons (n:=2000) Tryz.func66 eo66 h
theorem fs67 {l:List Tr.Fn}(h:FnsOk Tryz.prog l):FnsOk Tryz.prog (⟨67,Tryz.f67,2000⟩::l):=.cons (n:=2000) Tryz.func67 eo67 h
theorem fs68 {l:List Tr.Fn}(h:FnsOk Tryz.prog l):FnsOk Tryz.prog (⟨68,Tryz.f68,2000⟩::l):=.cons (n:=2000) Tryz.func68 eo68 h
theorem fs70 {l:List Tr.Fn}(h:FnsOk Tryz.prog l):FnsOk Tryz.prog (⟨70,Tryz.f70,2000⟩::l):=.cons (n:=2000) Tryz.func70 eo70 h
theorem fs72 {l:List Tr.Fn}(h:FnsOk Tryz.prog l):FnsOk Tryz.prog (⟨72,Tryz.f72,2000⟩::l):=.cons (n:=2000) Tryz.func72 eo72 h
theorem fs77 {l:List Tr.Fn}(h:FnsOk Tryz.prog l):FnsOk Tryz.prog (⟨77,Tryz.f77,2000⟩::l):=.cons (n:=2000) Tryz.func77 eo77 h
theorem fs81 {l:List Tr.Fn}(h:FnsOk Tryz.prog l):FnsOk Tryz.prog (⟨81,Tryz.f81,2000⟩::l):=.cons (n:=2000) Tryz.func81 eo81 h
theorem fs93 {l:List Tr.Fn}(h:FnsOk Tryz.prog l):FnsOk Tryz.prog (⟨93,Tryz.f93,2000⟩::l):=.cons (n:=2000) Tryz.func93 eo93 h
theorem fs95 {l:List Tr.Fn}(h:FnsOk Tryz.prog l):FnsOk Tryz.prog (⟨95,Tryz.f95,2000⟩::l):=.cons (n:=2000) Tryz.func95 eo95 h
theorem fs96 {l:List Tr.Fn}(h:FnsOk Tryz.prog l):FnsOk Tryz.prog (⟨96,Tryz.f96,2000⟩::l):=.cons (n:=2000) Tryz.func96 eo96 h
theorem fs97 {l:List Tr.Fn}(h:FnsOk Tryz.prog l):FnsOk Tryz.prog (⟨97,Tryz.f97,2000⟩::l):=.cons (n:=2000) Tryz.func97 eo97 h
theorem fs99 {l:List Tr.Fn}(h:FnsOk Tryz.prog l):FnsOk Tryz.prog (⟨99,Tryz.f99,2000⟩::l):=.cons (n:=2000) Tryz.func99 eo99 h
theorem fs100 {l:List Tr.Fn}(h:FnsOk Tryz.prog l):FnsOk Tryz.prog (⟨100,Tryz.f100,2000⟩::l):=.cons (n:=2000) Tryz.func100 eo100 h
theorem fs101 {l:List Tr.Fn}(h:FnsOk Tryz.prog l):FnsOk Tryz.prog (⟨101,Tryz.f101,2000⟩::l):=.cons (n:=2000) Tryz.func101 eo101 h
theorem fs103 {l:List Tr.Fn}(h:FnsOk Tryz.prog l):FnsOk Tryz.prog (⟨103,Tryz.f103,2000⟩::l):=.cons (n:=2000) Tryz.func103 eo103 h
theorem fs104 {l:List Tr.Fn}(h:FnsOk Tryz.prog l):FnsOk Tryz.prog (⟨104,Tryz.f104,2000⟩::l):=.cons (n:=2000) Tryz.func104 eo104 h
theorem fs106 {l:List Tr.Fn}(h:FnsOk Tryz.prog l):FnsOk Tryz.prog (⟨106,Tryz.f106,2000⟩::l):=.cons (n:=2000) Tryz.func106 eo106 h
theorem fs108 {l:List Tr.Fn}(h:FnsOk Tryz.prog l):FnsOk Tryz.prog (⟨108,Tryz.f108,2000⟩::l):=.cons (n:=2000) Tryz.func108 eo108 h
theorem fs109 {l:List Tr.Fn}(h:FnsOk Tryz.prog l):FnsOk Tryz.prog (⟨109,Tryz.f109,2000⟩::l):=.cons (n:=2000) Tryz.func109 eo109 h
theorem fs112 {l:List Tr.Fn}(h:FnsOk Tryz.prog l):FnsOk Tryz.prog (⟨112,Tryz.f112,2000⟩::l):=.cons (n:=2000) Tryz.func112 eo112 h
theorem fs113 {l:List Tr.Fn}(h:FnsOk Tryz.prog l):FnsOk Tryz.prog (⟨113,Tryz.f113,2000⟩::l):=.cons (n:=2000) Tryz.func113 eo113 h
theorem fs115 {l:List Tr.Fn}(h:FnsOk Tryz.prog l):FnsOk Tryz.prog (⟨115,Tryz.f115,2000⟩::l):=.cons (n:=2000) Tryz.func115 eo115 h
theorem fs116 {l:List Tr.Fn}(h:FnsOk Tryz.prog l):FnsOk Tryz.prog (⟨116,Tryz.f116,2000⟩::l):=.cons (n:=2000) Tryz.func116 eo116 h
theorem fs117 {l:List Tr.Fn}(h:FnsOk Tryz.prog l):FnsOk Tryz.prog (⟨117,Tryz.f117,2000⟩::l):=.cons (n:=2000) Tryz.func117 eo117 h
theorem Qhq {l:List Tr.Fn}(h:FnsOk Tryz.prog l):FnsOk Tryz.prog (⟨119,Tryz.f119,2000⟩::l):=.cons (n:=2000) Tryz.func119 eo119 h
theorem Qgz {l:List Tr.Fn}(h:FnsOk Tryz.prog l):FnsOk Tryz.prog (⟨121,Tryz.f121,2000⟩::l):=.cons (n:=2000) Tryz.func121 eo121 h
theorem fs136 {l:List Tr.Fn}(h:FnsOk Tryz.prog l):FnsOk Tryz.prog (⟨136,Tryz.f136,2000⟩::l):=.cons (n:=2000) Tryz.func136 eo136 h
theorem fs138 {l:List Tr.Fn}(h:FnsOk Tryz.prog l):FnsOk Tryz.prog (⟨138,Tryz.f138,2000⟩::l):=.cons (n:=2000) Tryz.func138 eo138 h
theorem fs146 {l:List Tr.Fn}(h:FnsOk Tryz.prog l):FnsOk Tryz.prog (⟨146,Tryz.f146,2000⟩::l):=.cons (n:=2000) Tryz.func146 eo146 h
theorem fs147 {l:List Tr.Fn}(h:FnsOk Tryz.prog l):FnsOk Tryz.prog (⟨147,Tryz.f147,2000⟩::l):=.cons (n:=2000) Tryz.func147 eo147 h
theorem fs153 {l:List Tr.Fn}(h:FnsOk Tryz.prog l):FnsOk Tryz.prog (⟨153,Tryz.f153,2000⟩::l):=.cons (n:=2000) Tryz.func153 eo153 h
theorem fs158 {l:List Tr.Fn}(h:FnsOk Tryz.prog l):FnsOk Tryz.prog (⟨158,Tryz.f158,2000⟩::l):=.cons (n:=2000) Tryz.func158 eo158 h
theorem fs163 {l:List Tr.Fn}(h:FnsOk Tryz.prog l):FnsOk Tryz.prog (⟨163,Tryz.f163,2000⟩::l):=.cons (n:=2000) Tryz.func163 eo163 h
theorem Qha {l:List Tr.Fn}(h:FnsOk Tryz.prog l):FnsOk Tryz.prog (⟨167,Tryz.f167,2000⟩::l):=.cons (n:=2000) Tryz.func167 eo167 h
theorem fs194 {l:List Tr.Fn}(h:FnsOk Tryz.prog l):FnsOk Tryz.prog (⟨194,Tryz.f194,2000⟩::l):=.cons (n:=2000) Tryz.func194 eo194 h
theorem fs197 {l:List Tr.Fn}(h:FnsOk Tryz.prog l):FnsOk Tryz.prog (⟨197,Tryz.f197,2000⟩::l):=.cons (n:=2000) Tryz.func197 eo197 h
theorem fs208 {l:List Tr.Fn}(h:FnsOk Tryz.prog l):FnsOk Tryz.prog (⟨208,Tryz.f208,2000⟩::l):=.cons (n:=2000) Tryz.func208 eo208 h
theorem fs238 {l:List Tr.Fn}(h:FnsOk Tryz.prog l):FnsOk Tryz.prog (⟨238,Tryz.f238,2000⟩::l):=.cons (n:=2000) Tryz.func238 eo238 h
theorem fs239 {l:List Tr.Fn}(h:FnsOk Tryz.prog l):FnsOk Tryz.prog (⟨239,Tryz.f239,2000⟩::l):=.cons (n:=2000) Tryz.func239 eo239 h
theorem fs240 {l:List Tr.Fn}(h:FnsOk Tryz.prog l):FnsOk Tryz.prog (⟨240,Tryz.f240,2000⟩::l):=.cons (n:=2000) Tryz.func240 eo240 h
theorem Qhb {l:List Tr.Fn}(h:FnsOk Tryz.prog l):FnsOk Tryz.prog (⟨244,Tryz.f244,2000⟩::l):=.cons (n:=2000) Tryz.func244 eo244 h
theorem Qhc {l:List Tr.Fn}(h:FnsOk Tryz.prog l):FnsOk Tryz.prog (⟨245,Tryz.f245,2000⟩::l):=.cons (n:=2000) Tryz.func245 eo245 h
end Go.Proofs.YtmimficdpfmfgaaGreat
