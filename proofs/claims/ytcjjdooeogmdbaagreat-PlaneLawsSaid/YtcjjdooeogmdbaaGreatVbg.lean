/- Laws. -/
import Derived.Test.YtcjjdooeogmdbaaGreatVbc
import Derived.Test.YtcjjdooeogmdbaaGreatVbe
set_option linter.all false
set_option maxHeartbeats 4000000
set_option maxRecDepth 100000
namespace Tr
open Go Go.RowKit
def RL.mn{q:Rat}{k l:Nat}(h:RL q k)(hl:k<=l:=by omega):RL q l:=h.mono hl
def qS(n:Nat):List AC:=[.sym n,.sym (n+1),.lit (.bool false),.sym (n+2)]
abbrev li(n:Int):AC:=.lit (.int .i64 n)
abbrev lc(n:Int):AR:=.c (.lit (.int .i64 n))
abbrev cS(n:Nat):AR:=.c (.sym n)
abbrev rS(n:Nat):AV:=.r (.c (.sym n))
abbrev rQ(n:Nat):AV:=.r (.row (qS n))
abbrev lTt:AC:=.lit (.bool true)
abbrev lFf:AC:=.lit (.bool false)
abbrev cTt:AR:=.c (.lit (.bool true))
abbrev cFf:AR:=.c (.lit (.bool false))
abbrev vTt:AV:=.r (.c (.lit (.bool true)))
abbrev vFf:AV:=.r (.c (.lit (.bool false)))
abbrev yQ(n:Nat):AR:=.row (qS n)
abbrev gxi(n:Int):GF:=gx (.int .i64 n)
abbrev gTt:FR:=.c (gl (.bool true))
abbrev gFf:FR:=.c (gl (.bool false))
abbrev gIi(n:Int):FR:=.c (gl (.int .i64 n))
end Tr
namespace Go.Proofs.YtcjjdooeogmdbaaGreat
open Go.RowKit Tr Proofs.Tryz
def ZL.mn{z:QC}{k l:Nat}(h:ZL z k)(hl:k<=l:=by omega):ZL z l:=h.mono hl
def ri(n:Int){k:Nat}(h0:-9223372036854775808<=n:=by decide)(h1:n<9223372036854775808:=by decide)(h:2<=k:=by omega):RL (n:Rat) k:=(Qvl n h0 h1).mono h
def rj(n:Int)(h0:-9223372036854775808<=n:=by decide)(h1:n<9223372036854775808:=by decide):RL (n:Rat) 2:=Qvl n h0 h1
def rk(q:Rat){k:Nat}(h:(decide ((Qad q.num.natAbs).length<=1)&&decide ((Qad q.den).length<=1))=true:=by decide +kernel)(hk:1<=k:=by omega):RL q k:=(Uvv q 1 h).mono hk
def rl(q:Rat)(h:(decide ((Qad q.num.natAbs).length<=1)&&decide ((Qad q.den).length<=1))=true:=by decide +kernel):RL q 1:=Uvv q 1 h
def zk(z:QC){k:Nat}(h:(z.re.num.natAbs<256^1024/\z.re.den<256^1024)/\z.im.num.natAbs<256^1024/\z.im.den<256^1024:=by decide +kernel)(hk:1024<=k:=by omega):ZL z k:=(Qaa (Qcq h)).mono hk
def pgi(i j:Int)(a1:-9223372036854775808<=i:=by decide)(a2:i<9223372036854775808:=by decide)(b1:-9223372036854775808<=j:=by decide)(b2:j<9223372036854775808:=by decide):Qbx prog false 89 [.c (gx (.int .i64 i)),.c (gx (.int .i64 j))] (.r (.row (Qah ⟨(i:Rat),(j:Rat)⟩).cells)):=Qqb i j a1 a2 b1 b2
abbrev yR(n k:Nat):AR:=.row (Qba n k)
abbrev SCt:=Qbx prog true
abbrev SMt:=Qmm prog true
abbrev hN1(z:QC):Prop:=¬(z.im.num.sign<=0)
abbrev hO1(z:QC):Prop:=z.im.num.sign<=0
abbrev hN2(z:QC):Prop:=¬((((1:Rat)-(nm z)).num.sign)<=0)
abbrev hO2(z:QC):Prop:=(((1:Rat)-(nm z)).num.sign)<=0
def cbF{p:Prop}[Decidable p](h:¬p):some (decide p)=some false:=congrArg some (decide_eq_false h)
def cbT{p:Prop}[Decidable p](h:p):some (decide p)=some true:=congrArg some (decide_eq_true h)
def bLt{P:Program}{L:List GF}(t:TypeId)(s:Nat){v:Int}(h:v<=0)(hx:(AC.sym s).gv L=some (.int .i64 v):=by kernel_rfl):GB P L:=bI .leq t (.sym s) (.lit (.int .i64 0)) v 0 true (by simp only[Qch];exact cbT h) hx rfl
def bLf{P:Program}{L:List GF}(t:TypeId)(s:Nat){v:Int}(h:¬v<=0)(hx:(AC.sym s).gv L=some (.int .i64 v):=by kernel_rfl):GB P L:=bI .leq t (.sym s) (.lit (.int .i64 0)) v 0 false (by simp only[Qch];exact cbF h) hx rfl
def gpi{L:List GF}(i j:Int)(n:Nat)(hr:(AV.r (.row (Qba n 8))).lk L=some (.r (.row (Qah (⟨(i:Rat),(j:Rat)⟩:QC)).cells)):=by kernel_rfl)(a1:-9223372036854775808<=i:=by decide)(a2:i<9223372036854775808:=by decide)(b1:-9223372036854775808<=j:=by decide)(b2:j<9223372036854775808:=by decide):GC prog L true:=gs (pgi i j a1 a2 b1 b2) [lc i,lc j] (.r (.row (Qba n 8))) rfl hr rfl
def pnr(i:Int)(a1:-9223372036854775808<=i:=by decide)(a2:i<9223372036854775808:=by decide):Qbx prog true 190 [.c (gx (.int .i64 i)),.c (gx (.int .i64 1))] (.r (R1 (Rat.divInt i 1))):=Kgd i 1 a1 a2 (by decide) (by decide) (by decide)
end Go.Proofs.YtcjjdooeogmdbaaGreat
namespace Go.Proofs.YtcjjdooeogmdbaaGreat
open Go.RowKit Tr Proofs.Tryz
def fsX {P:Program}{f:FuncId}{fn:Func}(a:P.funcs[f]?=some fn)(e:Enters P f){l:List Tr.Fn}(h:FnsOk P l):FnsOk P (⟨f,fn,2000⟩::l):=.cons (n:=2000) a e h
def Uln:=@fsX _ _ _ func12 eo12
def Kiy:=@fsX _ _ _ func14 eo14
def Uwc:=@fsX _ _ _ func29 eo29
def Usx:=@fsX _ _ _ func32 eo32
def Usy:=@fsX _ _ _ func34 eo34
def Usz:=@fsX _ _ _ func35 eo35
def Uxp:=@fsX _ _ _ func36 eo36
def Uxq:=@fsX _ _ _ func37 eo37
def Kfq:=@fsX _ _ _ func41 eo41
def Uqa:=@fsX _ _ _ func42 eo42
def Knd:=@fsX _ _ _ func44 eo44
def Uta:=@fsX _ _ _ func46 eo46
def Uxr:=@fsX _ _ _ func50 eo50
def Uxs:=@fsX _ _ _ func52 eo52
def Utb:=@fsX _ _ _ func56 eo56
def Utc:=@fsX _ _ _ func57 eo57
def Utd:=@fsX _ _ _ func60 eo60
def Ute:=@fsX _ _ _ func61 eo61
def Utf:=@fsX _ _ _ func62 eo62
def Uxt:=@fsX _ _ _ func63 eo63
def Utg:=@fsX _ _ _ func65 eo65
def Uwd:=@fsX _ _ _ func66 eo66
def Uth:=@fsX _ _ _ func67 eo67
def Uti:=@fsX _ _ _ func70 eo70
def Kiz:=@fsX _ _ _ func71 eo71
def Uxu:=@fsX _ _ _ func73 eo73
def Uxv:=@fsX _ _ _ func74 eo74
def Uxw:=@fsX _ _ _ func75 eo75
def Uxx:=@fsX _ _ _ func76 eo76
def Uxy:=@fsX _ _ _ func78 eo78
def Kfr:=@fsX _ _ _ func85 eo85
def Uxz:=@fsX _ _ _ func88 eo88
def Uqb:=@fsX _ _ _ func92 eo92
def Utj:=@fsX _ _ _ func93 eo93
def Utk:=@fsX _ _ _ func94 eo94
def Utl:=@fsX _ _ _ func95 eo95
def Usk:=@fsX _ _ _ func100 eo100
def Qmv:=@fsX _ _ _ func103 eo103
def Usl:=@fsX _ _ _ func106 eo106
def Qmp:=@fsX _ _ _ func107 eo107
def Ufp:=@fsX _ _ _ func128 eo128
def Kys:=@fsX _ _ _ func132 eo132
def Kyt:=@fsX _ _ _ func133 eo133
def Usm:=@fsX _ _ _ func134 eo134
def Ulo:=@fsX _ _ _ func149 eo149
def Usn:=@fsX _ _ _ func155 eo155
def Uso:=@fsX _ _ _ func156 eo156
def Usp:=@fsX _ _ _ func157 eo157
def Usq:=@fsX _ _ _ func158 eo158
def Usr:=@fsX _ _ _ func159 eo159
def Qmw:=@fsX _ _ _ func184 eo184
def Qmx:=@fsX _ _ _ func185 eo185
def Uss:=@fsX _ _ _ func204 eo204
def Ust:=@fsX _ _ _ func205 eo205
def Usu:=@fsX _ _ _ func238 eo238
def Usv:=@fsX _ _ _ func239 eo239
def Usw:=@fsX _ _ _ func256 eo256
