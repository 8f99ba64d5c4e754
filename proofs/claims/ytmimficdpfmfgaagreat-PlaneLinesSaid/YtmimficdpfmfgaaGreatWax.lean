/- Laws. -/
import Derived.Test.YtmimficdpfmfgaaGreatWat
import Derived.Test.YtmimficdpfmfgaaGreatWav
set_option linter.all false
set_option maxHeartbeats 4000000
set_option maxRecDepth 100000
namespace Tr
open Go Go.RowKit
def RL.mn{q:Rat}{k l:Nat}(h:RL q k)(hl:k<=l:=by omega):RL q l:=h.mono hl
def qS(n:Nat):List AC:=[.sym n,.sym (n+1),.lit (.bool false),.sym (n+2)]
abbrev li(n:Int):AC:=.lit (.int .i64 n)
abbrev lc(n:Int):AR:=.c (.lit (.int .i64 n))
abbrev cS(n:Nat):AR:=.c (.sym n)
abbrev rS(n:Nat):AV:=.r (.c (.sym n))
abbrev rQ(n:Nat):AV:=.r (.row (qS n))
abbrev lTt:AC:=.lit (.bool true)
abbrev lFf:AC:=.lit (.bool false)
abbrev cTt:AR:=.c (.lit (.bool true))
abbrev cFf:AR:=.c (.lit (.bool false))
abbrev vTt:AV:=.r (.c (.lit (.bool true)))
abbrev vFf:AV:=.r (.c (.lit (.bool false)))
abbrev yQ(n:Nat):AR:=.row (qS n)
abbrev gxi(n:Int):GF:=gx (.int .i64 n)
abbrev gTt:FR:=.c (gl (.bool true))
abbrev gFf:FR:=.c (gl (.bool false))
abbrev gIi(n:Int):FR:=.c (gl (.int .i64 n))
end Tr
namespace Go.Proofs.YtmimficdpfmfgaaGreat
open Go.RowKit Tr Proofs.Tryz
def ZL.mn{z:QC}{k l:Nat}(h:ZL z k)(hl:k<=l:=by omega):ZL z l:=h.mono hl
def ri(n:Int){k:Nat}(h0:-9223372036854775808<=n:=by decide)(h1:n<9223372036854775808:=by decide)(h:2<=k:=by omega):RL (n:Rat) k:=(Qml n h0 h1).mono h
def rj(n:Int)(h0:-9223372036854775808<=n:=by decide)(h1:n<9223372036854775808:=by decide):RL (n:Rat) 2:=Qml n h0 h1
def rk(q:Rat){k:Nat}(h:(decide ((Qac q.num.natAbs).length<=1)&&decide ((Qac q.den).length<=1))=true:=by decide +kernel)(hk:1<=k:=by omega):RL q k:=(Qeb q 1 h).mono hk
def rl(q:Rat)(h:(decide ((Qac q.num.natAbs).length<=1)&&decide ((Qac q.den).length<=1))=true:=by decide +kernel):RL q 1:=Qeb q 1 h
def zk(z:QC){k:Nat}(h:(z.re.num.natAbs<256^1024/\z.re.den<256^1024)/\z.im.num.natAbs<256^1024/\z.im.den<256^1024:=by decide +kernel)(hk:1024<=k:=by omega):ZL z k:=(Qab (Qbf h)).mono hk
def pgi(i j:Int)(a1:-9223372036854775808<=i:=by decide)(a2:i<9223372036854775808:=by decide)(b1:-9223372036854775808<=j:=by decide)(b2:j<9223372036854775808:=by decide):Qbj prog false 73 [.c (gx (.int .i64 i)),.c (gx (.int .i64 j))] (.r (.row (Qan ⟨(i:Rat),(j:Rat)⟩).cells)):=Krq i j a1 a2 b1 b2
abbrev yR(n k:Nat):AR:=.row (Qbd n k)
abbrev SCt:=Qbj prog true
abbrev SMt:=Qle prog true
abbrev nNa(z:QC):Prop:=¬(z.im.num.sign<=0)
abbrev nOa(z:QC):Prop:=z.im.num.sign<=0
abbrev nNb(z:QC):Prop:=¬((((1:Rat)-(nm z)).num.sign)<=0)
abbrev nOb(z:QC):Prop:=(((1:Rat)-(nm z)).num.sign)<=0
def cbF{p:Prop}[Decidable p](h:¬p):some (decide p)=some false:=congrArg some (decide_eq_false h)
def cbT{p:Prop}[Decidable p](h:p):some (decide p)=some true:=congrArg some (decide_eq_true h)
def bLt{P:Program}{L:List GF}(t:TypeId)(s:Nat){v:Int}(h:v<=0)(hx:(AC.sym s).gv L=some (.int .i64 v):=by kernel_rfl):GB P L:=bI .leq t (.sym s) (.lit (.int .i64 0)) v 0 true (by simp only[Qil];exact cbT h) hx rfl
def bLf{P:Program}{L:List GF}(t:TypeId)(s:Nat){v:Int}(h:¬v<=0)(hx:(AC.sym s).gv L=some (.int .i64 v):=by kernel_rfl):GB P L:=bI .leq t (.sym s) (.lit (.int .i64 0)) v 0 false (by simp only[Qil];exact cbF h) hx rfl
def bEt{P:Program}{L:List GF}(t:TypeId)(s:Nat){v:Int}(h:v=0)(hx:(AC.sym s).gv L=some (.int .i64 v):=by kernel_rfl):GB P L:=bI .eql t (.sym s) (.lit (.int .i64 0)) v 0 true (by simp[Qil,h]) hx rfl
def bEf{P:Program}{L:List GF}(t:TypeId)(s:Nat){v:Int}(h:¬v=0)(hx:(AC.sym s).gv L=some (.int .i64 v):=by kernel_rfl):GB P L:=bI .eql t (.sym s) (.lit (.int .i64 0)) v 0 false (by simp[Qil,h]) hx rfl
def bNf{P:Program}{L:List GF}(t:TypeId)(s:Nat){v:Int}(h:v=0)(hx:(AC.sym s).gv L=some (.int .i64 v):=by kernel_rfl):GB P L:=bI .neq t (.sym s) (.lit (.int .i64 0)) v 0 false (by simp[Qil,h]) hx rfl
def bNt{P:Program}{L:List GF}(t:TypeId)(s:Nat){v:Int}(h:¬v=0)(hx:(AC.sym s).gv L=some (.int .i64 v):=by kernel_rfl):GB P L:=bI .neq t (.sym s) (.lit (.int .i64 0)) v 0 true (by simp[Qil,h]) hx rfl
def gpi{L:List GF}(i j:Int)(n:Nat)(hr:(AV.r (.row (Qbd n 8))).lk L=some (.r (.row (Qan (⟨(i:Rat),(j:Rat)⟩:QC)).cells)):=by kernel_rfl)(a1:-9223372036854775808<=i:=by decide)(a2:i<9223372036854775808:=by decide)(b1:-9223372036854775808<=j:=by decide)(b2:j<9223372036854775808:=by decide):GC prog L true:=gs (pgi i j a1 a2 b1 b2) [lc i,lc j] (.r (.row (Qbd n 8))) rfl hr rfl
def pnr(i:Int)(a1:-9223372036854775808<=i:=by decide)(a2:i<9223372036854775808:=by decide):Qbj prog true 177 [.c (gx (.int .i64 i)),.c (gx (.int .i64 1))] (.r (R1 (Rat.divInt i 1))):=Ken i 1 a1 a2 (by decide) (by decide) (by decide)
end Go.Proofs.YtmimficdpfmfgaaGreat
namespace Go.Proofs.YtmimficdpfmfgaaGreat
open Go.RowKit Tr Proofs.Tryz
def fsX {P:Program}{f:FuncId}{fn:Func}(a:P.funcs[f]?=some fn)(e:Enters P f){l:List Tr.Fn}(h:FnsOk P l):FnsOk P (⟨f,fn,2000⟩::l):=.cons (n:=2000) a e h
def Uyx:=@fsX _ _ _ func13 eo13
def Kwz:=@fsX _ _ _ func18 eo18
def Uyy:=@fsX _ _ _ func26 eo26
def Uyz:=@fsX _ _ _ func27 eo27
def Vbd:=@fsX _ _ _ func31 eo31
def Vbe:=@fsX _ _ _ func33 eo33
def Vbf:=@fsX _ _ _ func34 eo34
def Uwh:=@fsX _ _ _ func40 eo40
def Vbg:=@fsX _ _ _ func47 eo47
def Uwi:=@fsX _ _ _ func53 eo53
def Uwj:=@fsX _ _ _ func66 eo66
def Uwk:=@fsX _ _ _ func67 eo67
def Vbh:=@fsX _ _ _ func68 eo68
def Kqh:=@fsX _ _ _ func70 eo70
def Vbi:=@fsX _ _ _ func72 eo72
def Uwl:=@fsX _ _ _ func77 eo77
def Knm:=@fsX _ _ _ func81 eo81
def Vbj:=@fsX _ _ _ func92 eo92
def Ukv:=@fsX _ _ _ func93 eo93
def Uob:=@fsX _ _ _ func95 eo95
def Vbk:=@fsX _ _ _ func96 eo96
def Uwm:=@fsX _ _ _ func97 eo97
def Ucv:=@fsX _ _ _ func99 eo99
def Uvy:=@fsX _ _ _ func104 eo104
def Uvz:=@fsX _ _ _ func106 eo106
def Kyv:=@fsX _ _ _ func108 eo108
def Kdx:=@fsX _ _ _ func109 eo109
def Ugq:=@fsX _ _ _ func110 eo110
def Ugr:=@fsX _ _ _ func111 eo111
def Ugs:=@fsX _ _ _ func112 eo112
def Qxr:=@fsX _ _ _ func113 eo113
def Uno:=@fsX _ _ _ func114 eo114
def Ugt:=@fsX _ _ _ func115 eo115
def Unp:=@fsX _ _ _ func116 eo116
def Kqg:=@fsX _ _ _ func117 eo117
def Uwa:=@fsX _ _ _ func118 eo118
def Qup:=@fsX _ _ _ func119 eo119
def Qrz:=@fsX _ _ _ func121 eo121
def Kyw:=@fsX _ _ _ func136 eo136
def Kdy:=@fsX _ _ _ func138 eo138
def Ugu:=@fsX _ _ _ func143 eo143
def Ugv:=@fsX _ _ _ func146 eo146
def Ugw:=@fsX _ _ _ func147 eo147
def Uwb:=@fsX _ _ _ func153 eo153
def Uwc:=@fsX _ _ _ func158 eo158
def Ugx:=@fsX _ _ _ func163 eo163
def Uwd:=@fsX _ _ _ func164 eo164
def Uwe:=@fsX _ _ _ func165 eo165
def Qsa:=@fsX _ _ _ func167 eo167
def Unq:=@fsX _ _ _ func184 eo184
def Kdz:=@fsX _ _ _ func194 eo194
def Ugy:=@fsX _ _ _ func195 eo195
def Kea:=@fsX _ _ _ func197 eo197
def Unr:=@fsX _ _ _ func199 eo199
def Uns:=@fsX _ _ _ func200 eo200
def Uwf:=@fsX _ _ _ func201 eo201
def Unt:=@fsX _ _ _ func202 eo202
def Unu:=@fsX _ _ _ func203 eo203
def Unv:=@fsX _ _ _ func204 eo204
def Unw:=@fsX _ _ _ func206 eo206
def Unx:=@fsX _ _ _ func208 eo208
def Uny:=@fsX _ _ _ func238 eo238
def Unz:=@fsX _ _ _ func239 eo239
def Uoa:=@fsX _ _ _ func240 eo240
def Qsb:=@fsX _ _ _ func244 eo244
def Qsc:=@fsX _ _ _ func245 eo245
def Uwg:=@fsX _ _ _ func252 eo252
def Kyx:=@fsX _ _ _ func254 eo254
