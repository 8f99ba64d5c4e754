/- Laws for the walk. -/
import Derived.Test.YtjlhiaafnpompaaGreatYah
import Derived.Test.YtjlhiaafnpompaaGreatYap
set_option linter.unusedVariables false
set_option maxHeartbeats 4000000
namespace Go.Proofs.YtjlhiaafnpompaaGreat
open Go.RowKit Tr
theorem run_conv_str(w:World)(v:Value)(s:ByteArray)(h:BSl w v s):(convert 153 9 v).run Tryz.prog w=.ok (.string s) w:=by
 obtain⟨b,off,cap,rfl,_,hb⟩:=h
 exact Lib.run_convert_whole w 153 5 9 Tryz.underlying153 Tryz.underlying5 Tryz.underlying9 b off s hb cap
theorem sign_lt(z:Int):decide (z.sign<0)=decide (z<0):=by
 rcases Int.lt_trichotomy z 0 with h|h|h
 ·rw[Int.sign_eq_neg_one_of_neg h]; simp[h]
 ·subst h; rfl
 ·rw[Int.sign_eq_one_of_pos h]; have:¬z<0:=by omega
  simp[this]
theorem new_two(w:World)(x y:Value)(T:TypeId){w1:World}(h:Below (w.alloc (.cells #[x,y] T)).heap.size (w.alloc (.cells #[x,y] T)) w1):w1.cell? ⟨w.heap.size,0,none⟩=some x∧w1.cell? ⟨w.heap.size,1,none⟩=some y∧w1.frozen? ⟨w.heap.size,0,none⟩=false∧w1.frozen? ⟨w.heap.size,1,none⟩=false:=by
 have e:=(h.block w.heap.size (by simp)).trans (heap_alloc_new w _)
 simp[World.cell?,World.frozen?,e]
set_option maxRecDepth 100000 in
theorem back_any(z:Int)(vx:Value)(A:Nat→Prop)(w:World)(hx:IntP z vx w A)(hn:(words z.natAbs).length<274877906944) :
  Calls Tryz.prog 114 #[vx] w fun e w'=>e=.returned (encZ z)∧Below w.heap.size w w':=by
 have hal:Below w.heap.size w (w.alloc (.cells #[.bool false,.string ⟨#[]⟩] 23)):=br.alloc (Nat.le_refl _) _
 obtain⟨sg,hsg⟩:∃ sg,sg=z.sign:=⟨_,rfl⟩
 have HS:=Lib.hid (Sign_any z vx A _ (hx.below hal))
 have HB:=Lib.hid (Bytes_any z vx A _ (hx.below hal) hn)
 rw[←hsg] at HS
 have HG:Hid (decide (sg<0)=decide (z<0)):=Lib.hid (by rw[hsg,sign_lt])
 clear hsg hx hal
 go_enter Tryz.func114,Tryz.ntmps114
 go_wp2_with fail
 refine HS.out.mono ?_
 rintro e w0 ⟨rfl,rfl⟩
 go_wp2_with fail
 refine HB.out.mono ?_
 rintro e w1 ⟨v,rfl,hv,hb⟩
 obtain⟨e0,e1,f0,f1⟩:=new_two w _ _ _ hb
 have hr:=run_conv_str w1 v _ hv
 have hbw:Below w.heap.size w w1:=(br.alloc (Nat.le_refl _) _).trans (hb.mono (by simp))
 obtain⟨st,hst⟩:∃ st,st=strN z.natAbs:=⟨_,rfl⟩
 rw[←hst] at hr
 have HST:=Lib.hid hst
 clear hb hv hst HS HB
 go_wp2_with fail
 refine bodyPost_ret (v:=.agg #[.bool (decide (sg<0)),.string st]) (by simp[results,Tryz.results114,go_sem,e0,e1]) rfl ⟨?_,?_⟩
 ·rw[HG.out,HST.out]; rfl
 ·exact((hbw.setCell (p:=⟨w.heap.size,0,none⟩) (Nat.le_refl _) _).setCell (p:=⟨w.heap.size,1,none⟩) (Nat.le_refl _) _)
theorem new_four(w:World)(x y z u:Value)(T:TypeId){w1:World}(h:Below (w.alloc (.cells #[x,y,z,u] T)).heap.size (w.alloc (.cells #[x,y,z,u] T)) w1):w1.cell? ⟨w.heap.size,0,none⟩=some x∧w1.cell? ⟨w.heap.size,1,none⟩=some y∧w1.cell? ⟨w.heap.size,2,none⟩=some z∧w1.cell? ⟨w.heap.size,3,none⟩=some u∧w1.frozen? ⟨w.heap.size,0,none⟩=false∧w1.frozen? ⟨w.heap.size,1,none⟩=false∧w1.frozen? ⟨w.heap.size,2,none⟩=false∧w1.frozen? ⟨w.heap.size,3,none⟩=false:=by
 have e:=(h.block w.heap.size (by simp)).trans (heap_alloc_new w _)
 simp[World.cell?,World.frozen?,e]
set_option maxRecDepth 100000 in
theorem told_any(q:Rat)(vx:Value)(A:Nat→Prop)(w:World)(hx:RatP q vx w A)(hl:RL q 137438953472) :
  Calls Tryz.prog 90 #[vx] w fun e w'=>e=.returned (encF q)∧Below w.heap.size w w':=by
 have hal:Below w.heap.size w (w.alloc (.cells #[.bool false,.string ⟨#[]⟩,.bool false,.string ⟨#[]⟩] 25)):=br.alloc (Nat.le_refl _) _
 have HX:=Lib.hid (hx.below hal)
 have HN:=Lib.hid (Num_any q vx A _ HX.out hl)
 have hln:(words q.num.natAbs).length<274877906944:=by have:=hl.1; omega
 have hld:(words (q.den:Int).natAbs).length<274877906944:=by have:=hl.2; simp; omega
 clear hx hal
 go_enter Tryz.func90,Tryz.ntmps90
 go_wp2_with fail
 refine HN.out.mono ?_
 rintro e w1 ⟨v1,rfl,hn1⟩
 have HK:=Lib.hid (back_any q.num v1 NoA w1 (hn1.2 NoA (rcv_noA _)) hln)
 go_wp2_with fail
 refine HK.out.mono ?_
 rintro e w2 ⟨rfl,hb2⟩
 have HD:=Lib.hid (Denom_any q vx A w2 ((HX.out.below hn1.1).below hb2) hl)
 go_wp2_with fail
 refine HD.out.mono ?_
 rintro e w3 ⟨v3,rfl,hn3⟩
 have HK2:=Lib.hid (back_any q.den v3 NoA w3 (hn3.2 NoA (rcv_noA _)) hld)
 go_wp2_with fail
 refine HK2.out.mono ?_
 rintro e w4 ⟨rfl,hb4⟩
 have hb13:=hn1.1.trans ((hb2.trans ((hn3.1.trans (hb4.mono hn3.1.size)).mono hb2.size)).mono hn1.1.size)
 obtain⟨e0,e1,e2,e3,f0,f1,f2,f3⟩:=new_four w _ _ _ _ _ hb13
 have hbw:Below w.heap.size w w4:=(br.alloc (Nat.le_refl _) _).trans (hb13.mono (by simp))
 obtain⟨b1,hb1⟩:∃ b1,b1=decide (q.num<0):=⟨_,rfl⟩
 obtain⟨b2,hb2'⟩:∃ b2,b2=decide ((q.den:Int)<0):=⟨_,rfl⟩
 obtain⟨s1,hs1⟩:∃ s1,s1=strN q.num.natAbs:=⟨_,rfl⟩
 obtain⟨s2,hs2⟩:∃ s2,s2=strN (q.den:Int).natAbs:=⟨_,rfl⟩
 have ez1:encZ q.num=.agg #[.bool b1,.string s1]:=by rw[hb1,hs1]; rfl
 have ez2:encZ (q.den:Int)=.agg #[.bool b2,.string s2]:=by rw[hb2',hs2]; rfl
 have HE:=Lib.hid (show encF q=.agg #[.bool b1,.string s1,.bool b2,.string s2] by unfold encF; rw[hb1,hb2',hs1,hs2]; simp)
 rw[ez1,ez2]
 clear hn1 hb2 hn3 hb4 hb13 hb1 hb2' hs1 hs2 ez1 ez2 HK HK2 HD HN
 go_wp2_with fail
 refine bodyPost_ret (v:=.agg #[.bool b1,.string s1,.bool b2,.string s2]) (by simp[results,Tryz.results90,go_sem,e0,e1,e2,e3]) rfl ⟨?_,?_⟩
 ·rw[HE.out]
 ·exact((((hbw.setCell (p:=⟨w.heap.size,0,none⟩) (Nat.le_refl _) _).setCell (p:=⟨w.heap.size,1,none⟩) (Nat.le_refl _) _).setCell (p:=⟨w.heap.size,2,none⟩) (Nat.le_refl _) _).setCell (p:=⟨w.heap.size,3,none⟩) (Nat.le_refl _) _)
end Go.Proofs.YtjlhiaafnpompaaGreat
namespace Tr
end Tr
namespace Go.Proofs.YtjlhiaafnpompaaGreat
open Go.RowKit Tr
end Go.Proofs.YtjlhiaafnpompaaGreat
namespace Tr
open Go Go.RowKit
section
variable{P:Program}{L:List GF}
def isLen(t:TypeId)(o:Oper):Bool:=match o.op with|.call c=>(match c.callee with|.builtin .len=>(match c.argTypes.toList,c.args.toList with|[u],[_]=>u == t|_,_=>false)|_=>false)|_=>false
def goLenG(t:TypeId)(x:AR)(res:AC){v:Value}(h:∀(w:World) (A:Nat→Prop) (u:Value) (ty:TypeId),x.ok (gT L) σ0 u w A→(Builtin.len_ #[t] ty #[u]).run P w=.ok v w)(hx:x.noown=true:=by rfl)(hr:res.gv L=some v:=by rfl):GO P L :=
 ⟨{ same:=isLen t,args:=[x],res:=.r (.c res) },fun o ho σ ρ w A ha=>by
  obtain⟨dst,op,ty,pos,after,guard⟩:=o
  unfold isLen at ho
  cases op<;>simp only[Bool.false_eq_true] at ho
  rename_i c
  obtain⟨callee,args,ats⟩:=c
  cases callee<;>simp only[Bool.false_eq_true] at ho
  rename_i b
  cases b<;>simp only[Bool.false_eq_true] at ho
  split at ho
  ·rename_i u y h1 h2
   have e1:ats=#[t]:=by apply Array.toList_inj.1; rw[h1]; simpa using ho
   have e2:args=#[y]:=by apply Array.toList_inj.1; rw[h2]
   subst e1; subst e2
   have h3:=h w A (ρ y) ty (AR.ok_noown hx ha.1)
   exact⟨v,by simp[execOp,resolve,invoke,builtin,h3],(AC.gv_ok hr).2 rfl⟩
  ·cases ho⟩
theorem eqGuard_bool(op:BinOp)(t:TypeId)(xo yo:Operand)(a b:Bool)(w:World):(eqGuard op t xo yo (.bool a) (.bool b)).run P w=.ok () w:=by
 cases op<;>rfl
theorem bool_neq{t:TypeId}(ht:P.underlying t=some .bool)(a b c:Bool)(hc:(a != b)=c):∀(xo yo:Operand) (w:World),(do eqGuard .neq t xo yo (.bool a) (.bool b); binOp .neq t (.bool a) (.bool b):Sem Value).run P w=.ok (.bool c) w:=by
 intro xo yo w
 have e:binOp .neq t (.bool a) (.bool b)=(do pure (.bool (!(←Op.equal t (.bool a) (.bool b))))):=rfl
 rw[Sem.run_bind,eqGuard_bool,Result.andThen_ok,e,Sem.run_bind,run_equal_bool _ t a b ht,Result.andThen_ok]
 rw[←hc]
 rfl
def cmpB(op:BinOp)(a b:Int):Option Bool:=match op with
 | .eql=>some (a == b)|.neq=>some (a != b)|.lss=>some (decide (a<b))|.leq=>some (decide (a≤b))|.gtr=>some (decide (a>b))|.geq=>some (decide (a≥b))|_=>none
theorem int_cmp(op:BinOp)(t:TypeId)(k:IntKind)(a b:Int)(c:Bool)(hc:cmpB op a b=some c):∀(xo yo:Operand) (w:World),(do eqGuard op t xo yo (.int k a) (.int k b); binOp op t (.int k a) (.int k b):Sem Value).run P w=.ok (.bool c) w:=by
 intro xo yo w
 cases op<;>simp only[cmpB,Option.some.injEq] at hc<;>first|(cases hc; done)|(subst hc; simp[eqGuard,binOp,Op.intCmp])
def gbInt(op:BinOp)(t:TypeId)(k:IntKind)(x y:AC)(a b:Int)(c:Bool)(h:cmpB op a b=some c)(hx:x.gv L=some (.int k a):=by rfl)(hy:y.gv L=some (.int k b):=by rfl):GB P L:=gb op t (.c x) (.c y) (.lit (.bool c)) (int_cmp op t k a b c h) hx hy rfl
def gbNeb(t:TypeId)(ht:P.underlying t=some .bool)(a b:Bool):GB P L:=gb .neq t (.c (.lit (.bool a))) (.c (.lit (.bool b))) (.lit (.bool (a != b))) (bool_neq ht a b _ rfl) rfl rfl rfl
end
end Tr
namespace Go.Proofs.YtjlhiaafnpompaaGreat
open Go.RowKit Tr
end Go.Proofs.YtjlhiaafnpompaaGreat
namespace Tr
open Go Go.RowKit
end Tr
namespace Go.Proofs.YtjlhiaafnpompaaGreat
open Go.RowKit Tr
def WL(n k:Nat):Prop:=(words n).length≤k
theorem WL.mono{n j k:Nat}(h:WL n j)(hk:j≤k):WL n k:=Nat.le_trans h hk
theorem WL.size{n k:Nat}(h:WL n k):(strN n).size≤4*k:=by
 rw[size_strN]
 refine byteLE_le (Nat.lt_of_lt_of_le (lt_words n) ?_)
 rw[show(256:Nat) ^ (4*k)=4294967296 ^ k by rw[Nat.pow_mul]]
 exact Nat.pow_le_pow_right (by decide) h
def cz(z:Int):List GF:=[gx (.bool (decide (z<0))),gx (.string (strN z.natAbs))]
end Go.Proofs.YtjlhiaafnpompaaGreat
namespace Go.Proofs.YtjlhiaafnpompaaGreat
open Go.RowKit Tr
end Go.Proofs.YtjlhiaafnpompaaGreat
namespace Tr
open Go Go.RowKit
section
variable{P:Program}
end
end Tr
namespace Tr
open Go Go.RowKit
end Tr
namespace Go.Proofs.YtjlhiaafnpompaaGreat
open Go.RowKit Tr
end Go.Proofs.YtjlhiaafnpompaaGreat
namespace Go.Proofs.YtjlhiaafnpompaaGreat
open Go.RowKit Tr
end Go.Proofs.YtjlhiaafnpompaaGreat
namespace Tr
open Go Go.RowKit Go.Proofs.YtjlhiaafnpompaaGreat
theorem RL.wd{q:Rat}{k:Nat}(h:RL q k):WL q.den k:=h.2
end Tr
namespace Go.Proofs.YtjlhiaafnpompaaGreat
open Go.RowKit Tr
theorem WL.i{n k:Nat}(h:WL n k):WL (n:Int).natAbs k:=by rw[Int.natAbs_natCast]; exact h
theorem WL.mul{x y:Int}{j k:Nat}(hx:WL x.natAbs j)(hy:WL y.natAbs k):WL (x*y).natAbs (j+k):=by rw[Int.natAbs_mul]; exact wl_mul hx hy
theorem WL.add{x y:Int}{k:Nat}(hx:WL x.natAbs k)(hy:WL y.natAbs k):WL (x+y).natAbs (k+1):=wl_mono (Int.natAbs_add_le x y) (wl_add hx hy)
theorem WL.neg{x:Int}{k:Nat}(hx:WL x.natAbs k):WL (-x).natAbs k:=by rw[Int.natAbs_neg]; exact hx
end Go.Proofs.YtjlhiaafnpompaaGreat
namespace Go.Proofs.YtjlhiaafnpompaaGreat
open Go.RowKit Tr
theorem size_nil{s:ByteArray}(h:s.size=0):s=⟨#[]⟩:=by
 apply ByteArray.ext
 apply Array.eq_empty_of_size_eq_zero
 exact h
def OkW(neg:Bool)(s:ByteArray):Prop:=WForm neg s∧s.size≤16384
theorem noLead_nil:NoLead ⟨#[]⟩:=fun x l h=>by simp at h
theorem lead_head{s:ByteArray}(hs:0<s.size):NoLead s↔s[0].toNat≠0:=by
  have e:s.data.toList=s[0] :: s.data.toList.tail:=by
    cases h:s.data.toList with
    | nil => have : s.data.toList.length = s.size := by simp
             rw[h] at this; simp at this; omega
    | cons x l =>
      have h0:s.data[0]?=some x:=by rw[←Array.getElem?_toList,h]; rfl
      have h1:s[0]=x:=by
        have h2:s.data[0]?=some s[0]:=Array.getElem?_eq_getElem hs
        rw[h2] at h0; simpa using h0
      rw[h1]; rfl
  constructor
  · intro h hx
    exact h _ _ e (UInt8.toNat_inj.1 hx)
  · intro h x l hl hx
    rw[e] at hl
    simp at hl
    rw[←hl.1] at hx
    exact h (by rw[hx]; rfl)
end Go.Proofs.YtjlhiaafnpompaaGreat
namespace Go.Proofs.YtjlhiaafnpompaaGreat
open Go.RowKit Tr
def FracOk(v:Value):Prop:=∃ q:Rat,v=encF q∧(strN q.num.natAbs).size≤1024∧(strN q.den).size≤1024
theorem okW_strN(z:Int)(h:(strN z.natAbs).size≤16384):OkW (decide (z<0)) (strN z.natAbs):=by
 refine⟨⟨fun h0=>?_,noLead_strN _⟩,h⟩
 have:z.natAbs=0:=by
  have:=(numS_zero (noLead_strN z.natAbs)).2 h0
  rwa[numS_strN] at this
 have:z=0:=by omega
 subst this; rfl
theorem encF_parts{q:Rat}{n1 n2:Bool}{s1 s2:ByteArray}(h:Value.agg #[.bool n1,.string s1,.bool n2,.string s2]=encF q):n1=decide (q.num<0)∧s1=strN q.num.natAbs∧n2=false∧s2=strN q.den:=by
 unfold encF at h
 simpa using h
theorem encF_divInt{q:Rat}{n1 n2:Bool}{s1 s2:ByteArray}(h:Value.agg #[.bool n1,.string s1,.bool n2,.string s2]=encF q):Rat.divInt (sgn n1 (numS s1)) (sgn n2 (numS s2))=q:=by
 obtain⟨rfl,rfl,rfl,rfl⟩:=encF_parts h
 rw[numS_strN,numS_strN,sgn_self]
 show Rat.divInt q.num ((q.den:Nat):Int)=q
 exact Rat.num_divInt_den q
theorem toL_iff{a b:ByteArray}:a.toList=b.toList↔a=b:=by
 rw[ByteArray.toList_eq,ByteArray.toList_eq]
 constructor
 ·intro h; cases a; cases b; simp_all
 ·rintro rfl; rfl
theorem wl_size{n:Nat}{s:ByteArray}(h:numS s=n):(words n).length≤s.size:=by
 subst h
 exact words_length_le (Nat.lt_of_lt_of_le (numS_lt s) (Nat.pow_le_pow_left (by decide) _))
theorem RL_int(n:Int){k:Nat}(h:(words n.natAbs).length≤k)(hk:1≤k):RL (n:Rat) k:=by
 refine⟨?_,?_⟩
 ·rw[Rat.num_intCast]; exact h
 ·rw[Rat.den_intCast]; exact Nat.le_trans (words_length_le (k:=1) (by decide)) hk
theorem RL_i64(n:Int)(h0:-9223372036854775808≤n)(h1:n<9223372036854775808):RL (n:Rat) 2:=RL_int n (words_length_le (k:=2) (by omega)) (by decide)
theorem encF_two(q:Rat):∃ b1 t1 t2,encF q=.agg #[.bool b1,.string t1,.bool false,.string t2]:=⟨_,_,_,rfl⟩
set_option maxRecDepth 100000 in
theorem FInt_any(n:Int)(hn0:-9223372036854775808≤n)(hn1:n<9223372036854775808)(w:World) :
  Calls Tryz.prog 50 #[.int .i64 n] w fun e w'=>e=.returned (encF n)∧Below w.heap.size w w':=by
 have HA:=Lib.hid (show Below w.heap.size w (w.alloc (.cells #[.bool false,.string ⟨#[]⟩,.bool false,.string ⟨#[]⟩] 25)) from br.alloc (Nat.le_refl _) _)
 have HS:=Lib.hid (RSetInt64_any (w.heap.size+1) _ n hn0 hn1 ((w.alloc (.cells #[.bool false,.string ⟨#[]⟩,.bool false,.string ⟨#[]⟩] 25)).alloc zR) (by have:=heap_alloc_new (w.alloc (.cells #[.bool false,.string ⟨#[]⟩,.bool false,.string ⟨#[]⟩] 25)) zR; simpa using this) (by decide) noW_zRat)
 go_enter Tryz.func50,Tryz.ntmps50
 go_wp2_with fail
 refine HS.out.mono ?_
 rintro e w1 ⟨rfl,hp⟩
 have hr:=(hp.ratP (rcv_noA _)).noA
 have HT:=Lib.hid (told_any _ _ NoA w1 hr ((RL_i64 n hn0 hn1).mono (by decide)))
 have hz:(w.alloc (.cells #[.bool false,.string ⟨#[]⟩,.bool false,.string ⟨#[]⟩] 25)).heap.size=w.heap.size+1:=by simp
 have hb1:=below_of_alloc (by rw[hz]; exact hp.1)
 clear HS hp hr
 go_wp2_with fail
 refine HT.out.mono ?_
 rintro e w2 ⟨rfl,hb2⟩
 have hb12:=hb1.trans (hb2.mono hb1.size)
 obtain⟨e0,e1,e2,e3,f0,f1,f2,f3⟩:=new_four w _ _ _ _ _ hb12
 have HB:=Lib.hid (HA.out.trans (hb12.mono (by simp)))
 obtain⟨b1,t1,t2,he⟩:=encF_two n
 have HE:=Lib.hid he
 rw[he]
 clear he hb1 hb2 hb12 HT hz
 go_wp2_with fail
 refine bodyPost_ret (v:=.agg #[.bool b1,.string t1,.bool false,.string t2]) (by simp[results,Tryz.results50,go_sem,e0,e1,e2,e3]) rfl ⟨by rw[HE.out],?_⟩
 exact((((HB.out.setCell (p:=⟨w.heap.size,0,none⟩) (Nat.le_refl _) _).setCell (p:=⟨w.heap.size,1,none⟩) (Nat.le_refl _) _).setCell (p:=⟨w.heap.size,2,none⟩) (Nat.le_refl _) _).setCell (p:=⟨w.heap.size,3,none⟩) (Nat.le_refl _) _)
end Go.Proofs.YtjlhiaafnpompaaGreat
namespace Go.Proofs.YtjlhiaafnpompaaGreat
open Go.RowKit Tr
set_option maxRecDepth 100000 in
theorem formed_any(neg:Bool)(s:ByteArray)(r:Bool)(hr:r=true↔WForm neg s)(w:World) :
  Calls Tryz.prog 117 #[.agg #[.bool neg,.string s]] w fun e w'=>e=.returned (.bool r)∧Below w.heap.size w w':=by
 have HB:=Lib.hid (show Below w.heap.size w (w.alloc (.cells #[.bool neg,.string s] 23)) from br.alloc (Nat.le_refl _) _)
 rcases Nat.eq_zero_or_pos s.size with h0|h0
 ·have:=size_nil h0
  subst this
  have hr2:r=!neg:=by
   have:WForm neg ⟨#[]⟩↔neg=false:=⟨fun h=>h.1 rfl,fun h=>⟨fun _=>h,noLead_nil⟩⟩
   rw[this] at hr
   cases neg<;>cases r<;>simp_all
  subst hr2
  clear hr h0
  go_enter Tryz.func117,Tryz.ntmps117
  go_wp2
  all_goals go_ret
  all_goals exact⟨rfl,HB.out⟩
 ·have hne:¬s.toList=[]:=fun h=>by
   have h2:s.toList.length=s.size:=by rw[ByteArray.toList_eq]; simp
   rw[h] at h2; simp at h2; omega
  have hne2:s.toList.isEmpty=false:=by simpa using hne
  have hr2:r=((s[0].toNat:Int) != 0):=by
   have h1:WForm neg s↔s[0].toNat≠0:=⟨fun h=>(lead_head h0).1 h.2,fun h=>⟨fun h=>by omega,(lead_head h0).2 h⟩⟩
   rw[h1] at hr
   by_cases h:s[0].toNat=0
   ·rw[h] at hr ⊢; cases r; rfl; simp at hr
   ·have h3:((s[0].toNat:Int) != 0)=true:=by simpa using h
    rw[h3]; exact hr.2 h
  subst hr2
  clear hr hne
  go_enter Tryz.func117,Tryz.ntmps117
  go_wp2
  all_goals go_ret
  all_goals exact⟨rfl,HB.out⟩
theorem cmpI_zero{x y:Int}:cmpI x y=0↔x=y:=by unfold cmpI; split; omega; split<;>omega
theorem fracOk_parts{n1:Bool}{s1 s2:ByteArray}(h1:WForm n1 s1)(h2:WForm false s2){q:Rat} :
  Value.agg #[.bool n1,.string s1,.bool false,.string s2]=encF q↔q.num=sgn n1 (numS s1)∧(q.den:Int)=sgn false (numS s2):=by
 constructor
 ·intro h
  obtain⟨a,b,c,d⟩:=encF_parts h
  refine⟨?_,?_⟩
  ·rw[a,b,numS_strN,sgn_self]
  ·rw[d,numS_strN]; rfl
 ·rintro⟨a,b⟩
  have e1:=h1.enc
  have e2:=h2.enc
  rw[←a] at e1
  rw[←b] at e2
  unfold encZ at e1 e2
  simp only[Value.agg.injEq,Array.mk.injEq,List.cons.injEq,Value.bool.injEq,Value.string.injEq,and_true] at e1 e2
  unfold encF
  rw[←e1.1,←e1.2,e2.2]
  simp
open Classical in
noncomputable def formB(neg:Bool)(s:ByteArray):Bool:=decide (WForm neg s)
theorem formB_iff{neg:Bool}{s:ByteArray}:formB neg s=true↔WForm neg s:=by unfold formB; simp
def MayR(v:Value)(base:Nat)(u:Value)(w:World)(A:Nat→Prop):Prop:=(¬FracOk v∧u=.pointer none)∨∃ q,v=encF q∧FracOk v∧RatM base q u w A
set_option maxRecDepth 100000 in
theorem ERat_any(n1 n2:Bool)(s1 s2:ByteArray)(h1:s1.size<274877906944)(h2:s2.size<274877906944)(w:World) :
  Calls Tryz.prog 93 #[.agg #[.bool n1,.string s1,.bool n2,.string s2]] w fun e w'=>∃ u,e=.returned u∧MayR (.agg #[.bool n1,.string s1,.bool n2,.string s2]) w.heap.size u w' NoA∧Below w.heap.size w w':=by
 have HF:=Lib.hid (fun(w':World) (h:¬FracOk (.agg #[.bool n1,.string s1,.bool n2,.string s2]))=>show MayR (.agg #[.bool n1,.string s1,.bool n2,.string s2]) w.heap.size (.pointer none) w' NoA from .inl ⟨h,rfl⟩)
 have HAL:=Lib.hid (show Below w.heap.size w (w.alloc (.cells #[.bool n1,.string s1,.bool n2,.string s2] 25)) from br.alloc (Nat.le_refl _) _)
 have HP:=Lib.hid (fun(h:FracOk (.agg #[.bool n1,.string s1,.bool n2,.string s2]))=>show WForm n1 s1∧WForm n2 s2∧s1.size≤1024∧s2.size≤1024∧n2=false∧0<s2.size by
  obtain⟨q,e,k1,k2⟩:=h
  obtain⟨rfl,rfl,rfl,rfl⟩:=encF_parts e
  refine⟨(okW_strN _ (by omega)).1,?_,k1,k2,rfl,?_⟩
  ·have:=(okW_strN (q.den:Int) (by simp; omega)).1
   rw[show decide ((q.den:Int)<0)=false by simp] at this
   simpa using this
  ·rcases Nat.eq_zero_or_pos (strN q.den).size with h0|h0
   ·have:=(numS_zero (noLead_strN q.den)).2 h0
    rw[numS_strN] at this
    exact absurd this q.den_nz
   ·exact h0)
 have HK:=Lib.hid (fun n s w=>formed_any n s (formB n s) formB_iff w)
 go_enter Tryz.func93,Tryz.ntmps93
 go_wp2_with fail
 refine(HK.out n1 s1 _).mono ?_
 rintro e w1 ⟨rfl,hb1⟩
 obtain⟨e0,e1,e2,e3,_⟩:=new_four w _ _ _ _ _ hb1
 cases c1:formB n1 s1
 ·go_wp2
  go_ret
  exact⟨_,rfl,HF.out _ (fun hk=>by have:=formB_iff.2 (HP.out hk).1; rw[c1] at this; cases this),HAL.out.trans (hb1.mono (by simp))⟩
 ·go_wp2_with fail
  refine(HK.out n2 s2 _).mono ?_
  rintro e w2 ⟨rfl,hb2⟩
  have hb12:=hb1.trans (hb2.mono hb1.size)
  clear e0 e1 e2 e3
  obtain⟨e0,e1,e2,e3,_⟩:=new_four w _ _ _ _ _ hb12
  cases c2:formB n2 s2
  ·go_wp2
   go_ret
   exact⟨_,rfl,HF.out _ (fun hk=>by have:=formB_iff.2 (HP.out hk).2.1; rw[c2] at this; cases this),HAL.out.trans (hb12.mono (by simp))⟩
  ·cases n2
   ·rcases Nat.eq_zero_or_pos s2.size with h0|h0
    ·have h00:=size_nil h0
     subst h00
     go_wp2
     all_goals go_ret
     all_goals exact⟨_,rfl,HF.out _ (fun hk=>by have:=(HP.out hk).2.2.2.2.2; exact absurd this (by decide)),HAL.out.trans (hb12.mono (by simp))⟩
    ·have hne:s2.toList.isEmpty=false:=by
      have h2:s2.toList.length=s2.size:=by rw[ByteArray.toList_eq]; simp
      cases h:s2.toList
      ·rw[h] at h2; simp at h2; omega
      ·rfl
     by_cases c3:(1024:Int)<(s1.size:Int)
     ·go_wp2
      all_goals go_ret
      all_goals exact⟨_,rfl,HF.out _ (fun hk=>by have:=(HP.out hk).2.2.1; omega),HAL.out.trans (hb12.mono (by simp))⟩
     ·by_cases c4:(1024:Int)<(s2.size:Int)
      ·go_wp2
       all_goals go_ret
       all_goals exact⟨_,rfl,HF.out _ (fun hk=>by have:=(HP.out hk).2.2.2.1; omega),HAL.out.trans (hb12.mono (by simp))⟩
      ·have hlt:w.heap.size<w2.heap.size:=by have:=hb12.size; simp at this; omega
       have HQ:=Lib.hid (And.intro (formB_iff.1 c1) (And.intro (formB_iff.1 c2) (And.intro h0 (HAL.out.trans (hb12.mono (by simp))))))
       clear c1 c2 hb1 hb2 hb12 HAL HK HP
       go_wp2_with fail
       obtain⟨zn,hzn⟩:∃ zn,zn=sgn n1 (numS s1):=⟨_,rfl⟩
       obtain⟨zd,hzd⟩:∃ zd,zd=sgn false (numS s2):=⟨_,rfl⟩
       have hN1:=fun w=>ewhole_any n1 s1 h1 w
       have hN2:=fun w=>ewhole_any false s2 h2 w
       rw[←hzn] at hN1
       rw[←hzd] at hN2
       have hd0:zd≠0:=fun h=>by
        have h3:numS s2=0:=by rw[hzd] at h; unfold sgn at h; simpa using h
        have:=(numS_zero HQ.out.2.1.2).1 h3
        omega
       have l1:(words zn.natAbs).length≤1024:=by rw[hzn,natAbs_sgn]; exact Nat.le_trans (wl_size rfl) (by omega)
       have l2:(words zd.natAbs).length≤1024:=by rw[hzd,natAbs_sgn]; exact Nat.le_trans (wl_size rfl) (by omega)
       have HI:=Lib.hid (fun q=>fracOk_parts HQ.out.1 HQ.out.2.1 (q:=q))
       have HZ:=Lib.hid (And.intro hzn hzd)
       have hsz:s1.size≤1024∧s2.size≤1024:=by omega
       rw[←hzn,←hzd] at HI
       have HG:=Lib.hid (And.intro hN1 (And.intro hN2 (And.intro hd0 (And.intro l1 (And.intro l2 hsz)))))
       have hBw:=HQ.out.2.2.2
       clear hN1 hN2 hzn hzd hd0 l1 l2 hsz HQ
       refine wp_region_inv [(.lit,[]),(.lit,[]),(.val,[]),(.lit,[]),(.lit,[]),(.val,[])]
        (pickF [(2,IntP zn),(5,IntP zd)]) (by kernel_rfl) ?_ ?_ (by simp) (by simp) (by kernel_rfl)
       ·exact keeps_pick (by simp[IntP.keeps])
       ·repeat (refine⟨_,fun f w1 h1=>by(have d0:=ct h1 hlt e0; have d1:=ct h1 hlt e1; have d2:=ct h1 hlt e2; have d3:=ct h1 hlt e3; go_simp; rfl),?_⟩)
        simp only[Act.put,nrA,nrB,nrC,Nat.reduceAdd]
        refine⟨fun f w1 A1 k1 hA hN hd K hK=>by
         go_simp
         refine(HG.out.1 w1).mono ?_
         rintro e w' ⟨v,rfl,hn⟩
         exact hK _ _ hn.1 (hn.2 A1 hA),?_⟩
        repeat (refine⟨_,fun f w1 h1=>by(have d0:=ct h1 hlt e0; have d1:=ct h1 hlt e1; have d2:=ct h1 hlt e2; have d3:=ct h1 hlt e3; go_simp; rfl),?_⟩)
        simp only[Act.put,nrA,nrB,nrC,Nat.reduceAdd]
        refine⟨fun f w1 A1 k1 hA hN hd K hK=>by
         go_simp
         refine(HG.out.2.1 w1).mono ?_
         rintro e w' ⟨v,rfl,hn⟩
         exact hK _ _ hn.1 (hn.2 A1 hA),?_⟩
        intro f w3 k3 hF
        have i1:IntP zn (f 2) w3 NoA:=hF.1.2
        have i2:IntP zd (f 5) w3 NoA:=hF.2
        clear hF
        simp only[Act.put,nrA,nrB,nrC]
        generalize f 2=vn at *
        generalize f 5=vd at *
        have hb3:Below w.heap.size w w3:=hBw.trans ((br.drew.trans k3).mono hBw.size)
        clear e0 e1 e2 e3 hlt hBw k3
        have hal:=(Below.refl w3.heap.size w3).alloc (Nat.le_refl _) zR
        have HS:=Lib.hid (SetFrac_any w3.heap.size _ zn zd HG.out.2.2.1 vn vd NoA (w3.alloc zR) (heap_alloc_new w3 _) (by decide) noW_zRat (i1.below hal) (i2.below hal) (by have:=HG.out.2.2.2.1; omega) (by have:=HG.out.2.2.2.2.1; omega))
        have HJ:=Lib.hid (And.intro i1 (And.intro i2 hb3))
        clear i1 i2 hb3 hal
        go_wp2_with fail
        refine HS.out.mono ?_
        rintro e w4 ⟨rfl,hp4⟩
        obtain⟨q,hq⟩:∃ q,q=Rat.divInt zn zd:=⟨_,rfl⟩
        rw[←hq] at hp4
        have hr4:=(hp4.ratP (rcv_noA _)).noA
        have hb34:Below w3.heap.size w3 w4:=below_of_alloc hp4.1
        have hql:RL q 1024:=by rw[hq]; exact RL_divInt HG.out.2.2.1 HG.out.2.2.2.1 HG.out.2.2.2.2.1
        have HI2:=Lib.hid (fun q' (h:Value.agg #[.bool n1,.string s1,.bool false,.string s2]=encF q')=>show q'=q by rw[hq,HZ.out.1,HZ.out.2]; exact(encF_divInt h).symm)
        have HN:=Lib.hid (Num_any q _ NoA w4 hr4 (hql.mono (by decide)))
        have HR4:=Lib.hid (And.intro hr4 (And.intro hb34 hql))
        clear HS hq hp4 hr4 hb34 hql
        go_wp2_with fail
        refine HN.out.mono ?_
        rintro e w5 ⟨v5,rfl,hn5⟩
        have HC:=Lib.hid (Cmp_any q.num zn v5 vn NoA w5 (hn5.2 NoA (rcv_noA _)) ((HJ.out.1.below HR4.out.2.1).below hn5.1) (by have:=HR4.out.2.2.1; omega) (by have:=HG.out.2.2.2.1; omega))
        go_wp2_with fail
        refine HC.out.mono ?_
        rintro e w6 ⟨rfl,hb6⟩
        have hb46:Below w4.heap.size w4 w6:=hn5.1.trans (hb6.mono hn5.1.size)
        clear HN HC hn5 hb6
        by_cases c5:cmpI q.num zn=0
        ·have HD:=Lib.hid (Denom_any q _ NoA w6 (HR4.out.1.below hb46) (HR4.out.2.2.mono (by decide)))
         rw[c5]
         go_wp2_with fail
         refine HD.out.mono ?_
         rintro e w7 ⟨v7,rfl,hn7⟩
         have hb47:=hb46.trans (hn7.1.mono hb46.size)
         have HC:=Lib.hid (Cmp_any q.den zd v7 vd NoA w7 (hn7.2 NoA (rcv_noA _)) ((HJ.out.2.1.below HR4.out.2.1).below hb47) (by have:=HR4.out.2.2.2; simp; omega) (by have:=HG.out.2.2.2.2.1; omega))
         go_wp2_with fail
         refine HC.out.mono ?_
         rintro e w8 ⟨rfl,hb8⟩
         have hb48:=hb47.trans (hb8.mono hb47.size)
         clear HD HC hn7 hb8 hb47
         by_cases c6:cmpI q.den zd=0
         ·rw[c6]
          go_wp2
          go_ret
          have he:=(HI.out q).2 ⟨cmpI_zero.1 c5,cmpI_zero.1 c6⟩
          obtain⟨_,a,_,b⟩:=encF_parts he
          refine⟨_,rfl,.inr ⟨q,he,⟨q,he,?_,?_⟩,w3.heap.size,rfl,HJ.out.2.2.size,HR4.out.1.below hb48⟩,HJ.out.2.2.trans ((HR4.out.2.1.trans (hb48.mono HR4.out.2.1.size)).mono HJ.out.2.2.size)⟩
          ·rw[←a]; exact HG.out.2.2.2.2.2.1
          ·rw[←b]; exact HG.out.2.2.2.2.2.2
         ·have hc6:(cmpI q.den zd != 0)=true:=by simpa using c6
          go_wp2
          all_goals go_ret
          all_goals exact⟨_,rfl,HF.out _ (fun hk=>by
           obtain⟨q',hq',_⟩:=hk
           have:=HI2.out q' hq'
           subst this
           exact c6 (cmpI_zero.2 ((HI.out q').1 hq').2)),HJ.out.2.2.trans ((HR4.out.2.1.trans (hb48.mono HR4.out.2.1.size)).mono HJ.out.2.2.size)⟩
        ·have hc5:(cmpI q.num zn != 0)=true:=by simpa using c5
         go_wp2
         all_goals go_ret
         all_goals exact⟨_,rfl,HF.out _ (fun hk=>by
          obtain⟨q',hq',_⟩:=hk
          have:=HI2.out q' hq'
          subst this
          exact c5 (cmpI_zero.2 ((HI.out q').1 hq').1)),HJ.out.2.2.trans ((HR4.out.2.1.trans (hb46.mono HR4.out.2.1.size)).mono HJ.out.2.2.size)⟩
   ·go_wp2
    all_goals go_ret
    all_goals exact⟨_,rfl,HF.out _ (fun hk=>by have:=(HP.out hk).2.2.2.2.1; cases this),HAL.out.trans (hb12.mono (by simp))⟩
end Go.Proofs.YtjlhiaafnpompaaGreat
namespace Go.Proofs.YtjlhiaafnpompaaGreat
open Go.RowKit Tr
abbrev Un(A0 A:Nat→Prop):Nat→Prop:=fun b=>A b∨A0 b
theorem rcv_un{A0 A:Nat→Prop}{w:World}(h0:Rcv A0 w)(h:Rcv A w):Rcv (Un A0 A) w:=fun b hb=>hb.elim (h b) (h0 b)
def FactU(A0:Nat→Prop)(R:Fact):Fact:=fun v w A=>R v w (Un A0 A)
theorem FactU.keeps{A0:Nat→Prop}{R:Fact}(h:R.Keeps):(FactU A0 R).Keeps:=by
 intro v w w' A A' hs hk hR
 refine h v w w' _ _ hs (fun b hb hn=>?_) hR
 obtain⟨k1,k2⟩:=hk b hb (fun h=>hn (.inl h))
 exact⟨k1,fun h=>h.elim k2 (fun h=>hn (.inr h))⟩
theorem FactU.start{A0:Nat→Prop}{R:Fact}(h:R.Keeps){v:Value}{w:World}(hR:R v w A0):FactU A0 R v w NoA :=
 h v w w A0 _ (Nat.le_refl _) (fun b _ hn=>⟨rfl,fun h=>h.elim (fun h=>h.elim) hn⟩) hR
theorem FactU.done{A0:Nat→Prop}{R:Fact}(h:R.Keeps){v:Value}{w:World}(hR:FactU A0 R v w NoA):R v w A0 :=
 h v w w _ A0 (Nat.le_refl _) (fun b _ hn=>⟨rfl,fun h=>hn (.inr h)⟩) hR
theorem PutR.ratU{m base:Nat}{q:Rat}{w w':World}(h:PutR m q w w'){A0 A:Nat→Prop}(hA0:Rcv A0 w)(hA:Rcv A w)(hm:base≤m)(h0:∀ b,A0 b→b<base):FactU A0 (RatP q) (.pointer (some ⟨m,0,none⟩)) w' (fun b=>A b∧b≠m) :=
 (h.ratP (rcv_un hA0 hA)).wider fun b hb=>hb.elim (fun h=>⟨.inl h.1,h.2⟩) (fun h=>⟨.inr h,fun e=>by have:=h0 b h; omega⟩)
def RatO(q:Rat):Fact:=fun v w A=>(v=.pointer none∧q=0)∨RatP q v w A
theorem RatO.keeps(q:Rat):(RatO q).Keeps:=fun v w w' A A' hs hk h=>h.imp id (RatP.keeps q v w w' A A' hs hk)
theorem RatO.below{q:Rat}{v:Value}{w w':World}{A:Nat→Prop}(h:RatO q v w A)(hb:Below w.heap.size w w'):RatO q v w' A:=Fact.Keeps.below (RatO.keeps q) hb h
theorem RatP.zero{m:Nat}{w:World}{A:Nat→Prop}(h:w.heap[m]?=some zR)(hA:¬A m):RatP 0 (.pointer (some ⟨m,0,none⟩)) w A:=by
 have hlt:=(Array.getElem?_eq_some_iff.1 h).1
 have hn:WSlA A w (.slice none 0 0) (words 0):=by rw[words_zero]; exact⟨none,0,rfl,Nat.le_refl _,fun h=>absurd rfl h⟩
 refine⟨m,rfl,⟨m,0,.slice none 0 0,rfl,hlt,hA,by simp[World.cell?,h],by simp[World.cell?,h],hn⟩,.inr ⟨rfl,m,2,.slice none 0 0,rfl,hlt,hA,by simp[World.cell?,h],by simp[World.cell?,h],hn⟩⟩
set_option maxRecDepth 100000 in
theorem erat_any(q:Rat)(v:Value)(A:Nat→Prop)(w:World)(hx:RatO q v w A)(hA:Rcv A w) :
  Calls Tryz.prog 87 #[v] w fun e w'=>∃ u,e=.returned u∧Below w.heap.size w w'∧RatP q u w' A:=by
 rcases hx with⟨rfl,rfl⟩|hx
 ·have hb:=(Below.refl w.heap.size w).alloc (Nat.le_refl _) zR
  go_enter Tryz.func87,Tryz.ntmps87
  go_wp2
  go_ret
  exact⟨_,rfl,hb,RatP.zero (heap_alloc_new w _) (fun h=>by have:=hA.lt h; omega)⟩
 ·obtain⟨b,rfl⟩:=hx.shape
  have HX:=Lib.hid hx
  clear hx
  go_enter Tryz.func87,Tryz.ntmps87
  go_wp2
  go_ret
  exact⟨_,rfl,Below.refl _ _,HX.out⟩
set_option maxRecDepth 100000 in
theorem emul_any(x y:Rat)(vx vy:Value)(A:Nat→Prop)(w:World)(hx:RatO x vx w A)(hy:RatO y vy w A)(hA:Rcv A w)(k l:Nat)(hlx:RL x k)(hly:RL y l)(hkl:k+l<137438953472) :
  Calls Tryz.prog 97 #[vx,vy] w fun e w'=>∃ u,e=.returned u∧Below w.heap.size w w'∧RatP (x*y) u w' A:=by
 have hal:=(Below.refl w.heap.size w).alloc (Nat.le_refl _) zR
 have HA:=Lib.hid (And.intro hA hal)
 have H1:=Lib.hid (erat_any x vx A (w.alloc zR) (hx.below hal) (hA.below hal))
 have HY:=Lib.hid hy
 clear hx hy hal hA
 go_enter Tryz.func97,Tryz.ntmps97
 go_wp2_with fail
 refine H1.out.mono ?_
 rintro e w1 ⟨u1,rfl,hb1,hr1⟩
 have hb01:Below w.heap.size w w1:=HA.out.2.trans (hb1.mono (by simp))
 have H2:=Lib.hid (erat_any y vy A w1 (HY.out.below hb01) (HA.out.1.below hb01))
 have HR1:=Lib.hid hr1
 clear hr1
 go_wp2_with fail
 refine H2.out.mono ?_
 rintro e w2 ⟨u2,rfl,hb2,hr2⟩
 have hm:w2.heap[w.heap.size]?=some zR:=(hb2.block _ (by have:=hb1.size; simp at this; omega)).trans ((hb1.block _ (by simp)).trans (heap_alloc_new w _))
 have HM:=Lib.hid (RMul_any w.heap.size _ x y u1 u2 A w2 hm (by decide) noW_zRat (HR1.out.below hb2) hr2 k l hlx hly hkl)
 have HB:=Lib.hid (hb01.trans (hb2.mono hb01.size))
 clear H1 H2 HR1 hb1 hb2 hb01 hr2 hm
 go_wp2_with fail
 refine HM.out.mono ?_
 rintro e w3 ⟨rfl,hp⟩
 have hn:=hp.newAt HB.out (Nat.le_refl _)
 have HN:=Lib.hid hn
 clear hn hp HM
 go_wp2
 go_ret
 exact⟨_,rfl,HN.out.1,HN.out.2 A HA.out.1⟩
def NumO(a b:Rat):Fact:=fun v w A=>∃ u1 u2,v=.agg #[u1,u2]∧RatO a u1 w A∧RatO b u2 w A
theorem NumO.keeps(a b:Rat):(NumO a b).Keeps:=fun v w w' A A' hs hk ⟨u1,u2,h1,h2,h3⟩=>⟨u1,u2,h1,RatO.keeps a _ _ _ _ _ hs hk h2,RatO.keeps b _ _ _ _ _ hs hk h3⟩
theorem NumO.below{a b:Rat}{v:Value}{w w':World}{A:Nat→Prop}(h:NumO a b v w A)(hb:Below w.heap.size w w'):NumO a b v w' A:=Fact.Keeps.below (NumO.keeps a b) hb h
abbrev Mo(A:Nat→Prop)(n:Nat):Nat→Prop:=fun b=>A b∨b=n
theorem keep_set(R:Fact)(hR:R.Keeps){n o:Nat}{A:Nat→Prop}{x y:Value}{w:World}(h:R x w (Mo A n)):R x (w.setCell ⟨n,o,none⟩ y) (Mo A n) :=
 hR _ _ _ _ _ (by simp[World.setCell]) (fun b _ hn=>⟨Below.heap_setCell _ _ _ _ (fun e=>hn (.inr e)),hn⟩) h
theorem more_less(R:Fact)(hR:R.Keeps){n:Nat}{A:Nat→Prop}{x:Value}{w:World}(h:R x w (Mo A n)):R x w A :=
 hR _ _ _ _ _ (Nat.le_refl _) (fun b _ hn=>⟨rfl,fun h=>hn (.inl h)⟩) h
theorem put_num{a b:Rat}{v1 v2:Value}{w w1:World}{A:Nat→Prop}{n:Nat}(hb:Below w.heap.size w w1)(h1:RatP a v1 w1 (Mo A n))(h2:RatP b v2 w1 (Mo A n))(hn:w.heap.size≤n) :
  ∃ u,Ending.returned (.agg #[v1,v2])=.returned u∧Below w.heap.size w ((w1.setCell ⟨n,0,none⟩ v1).setCell ⟨n,1,none⟩ v2)∧NumO a b u ((w1.setCell ⟨n,0,none⟩ v1).setCell ⟨n,1,none⟩ v2) A:=by
 refine⟨_,rfl,(hb.setCell (p:=⟨n,0,none⟩) hn _).setCell (p:=⟨n,1,none⟩) hn _,v1,v2,rfl,.inr ?_,.inr ?_⟩
 ·exact more_less _ (RatP.keeps a) (keep_set _ (RatP.keeps a) (keep_set _ (RatP.keeps a) h1))
 ·exact more_less _ (RatP.keeps b) (keep_set _ (RatP.keeps b) (keep_set _ (RatP.keeps b) h2))
theorem new_more{R:Fact}(hR:R.Keeps){n:Nat}{A:Nat→Prop}{x:Value}{w w1:World}(hb:Below w.heap.size w w1)(hn:w.heap.size≤n)(h:R x w A):FactU (Mo A n) R x w1 NoA :=
 hR _ _ _ _ _ hb.size (fun b hlt hna=>⟨hb.block b hlt,fun h=>h.elim (fun h=>h) (fun h=>h.elim hna (fun e=>by omega))⟩) h
theorem noW_num(v1 v2:Value)(h1:∃ p,v1=.pointer p)(h2:∃ p,v2=.pointer p)(T:TypeId):NoW (.cells #[v1,v2] T (0,0)):=by
 obtain⟨p,rfl⟩:=h1
 obtain⟨q,rfl⟩:=h2
 intro cs T fr e i k x
 cases e
 rcases i with _|_|i<;>simp
theorem box_one(w:World)(u1 u2:Value)(A:Nat→Prop)(hA:Rcv A w) :
  ∃ W,Hid (W=(w.alloc (.cells #[u1,u2] 61)).alloc (.cells #[.pointer none,.pointer none] 61)∧Below w.heap.size w W∧Rcv (Mo A (w.heap.size+1)) W∧∀ w1,Below W.heap.size W w1→w1.cell? ⟨w.heap.size+1,0,none⟩=some (.pointer none)∧w1.cell? ⟨w.heap.size+1,1,none⟩=some (.pointer none)∧w1.frozen? ⟨w.heap.size+1,0,none⟩=false∧w1.frozen? ⟨w.heap.size+1,1,none⟩=false)∧w.heap.size<W.heap.size∧W.cell? ⟨w.heap.size,0,none⟩=some u1∧W.cell? ⟨w.heap.size,1,none⟩=some u2:=by
 have hb1:=(Below.refl (w.alloc (.cells #[u1,u2] 61)).heap.size (w.alloc (.cells #[u1,u2] 61))).alloc (Nat.le_refl _) (.cells #[.pointer none,.pointer none] 61)
 have hb:Below w.heap.size w ((w.alloc (.cells #[u1,u2] 61)).alloc (.cells #[.pointer none,.pointer none] 61)):=(br.alloc (Nat.le_refl _) _).alloc (by simp) _
 obtain⟨e0,e1,_⟩:=new_two w u1 u2 61 hb1
 have hz:(w.alloc (.cells #[u1,u2] 61)).heap.size=w.heap.size+1:=by simp
 have hn:=heap_alloc_new (w.alloc (.cells #[u1,u2] 61)) (.cells #[.pointer none,.pointer none] 61 (0,0))
 rw[hz] at hn
 refine⟨_,Lib.hid ⟨rfl,hb,fun b h=>h.elim (fun h=>(hA.below hb) b h) (fun h=>by subst h; exact⟨_,hn,noW_num _ _ ⟨_,rfl⟩ ⟨_,rfl⟩ _⟩),fun w1 h=>?_⟩,by simp; omega,e0,e1⟩
 have:=new_two (w.alloc (.cells #[u1,u2] 61)) (.pointer none) (.pointer none) 61 h
 rw[hz] at this
 exact this
set_option maxRecDepth 100000 in
theorem NScale_any(a b s:Rat)(v vs:Value)(A:Nat→Prop)(w:World)(hv:NumO a b v w A)(hs:RatO s vs w A)(hA:Rcv A w)(k l:Nat)(hla:RL a k)(hlb:RL b k)(hls:RL s l)(hkl:k+l<137438953472) :
  Calls Tryz.prog 88 #[v,vs] w fun e w'=>∃ u,e=.returned u∧Below w.heap.size w w'∧NumO (a*s) (b*s) u w' A:=by
 obtain⟨u1,u2,rfl,h1,h2⟩:=hv
 obtain⟨W,HV,hs2,e0,e1⟩:=box_one w u1 u2 A hA
 have h1:=new_more (RatO.keeps a) (n:=w.heap.size+1) HV.out.2.1 (by omega) h1
 have h2:=new_more (RatO.keeps b) (n:=w.heap.size+1) HV.out.2.1 (by omega) h2
 have hs:=new_more (RatO.keeps s) (n:=w.heap.size+1) HV.out.2.1 (by omega) hs
 clear hA
 go_enter Tryz.func88,Tryz.ntmps88
 go_wp2_with fail
 rw[←HV.out.1]
 refine wp_region_inv [(.lit,[]),(.lit,[]),(.lit,[]),(.val,[]),(.lit,[]),(.lit,[]),(.lit,[]),(.val,[])]
  (pickF [(3,FactU (Mo A (w.heap.size+1)) (RatP (a*s))),(7,FactU (Mo A (w.heap.size+1)) (RatP (b*s)))]) (by kernel_rfl) ?_ ?_ (by simp) (by simp) (by kernel_rfl)
 ·exact keeps_pick (by simp only[List.mem_cons,List.not_mem_nil,or_false]; rintro p (rfl|rfl)<;>exact FactU.keeps (RatP.keeps _))
 ·repeat (refine⟨_,fun f w1 h1=>by(have d0:=ct h1 hs2 e0; have d1:=ct h1 hs2 e1; go_simp; rfl),?_⟩)
  simp only[Act.put,nrA,nrB,nrC,Nat.reduceAdd]
  refine⟨fun f w1 A1 k1 hA hN hd K hK=>by
   go_simp
   refine(emul_any a s u1 vs (Un (Mo A (w.heap.size+1)) A1) w1 (later (FactU.keeps (RatO.keeps _)) h1 k1 hN) (later (FactU.keeps (RatO.keeps _)) hs k1 hN) (rcv_un (HV.out.2.2.1.below (br.drew.trans k1)) hA) k l hla hls hkl).mono ?_
   rintro e w' ⟨v,rfl,hb,hr⟩
   exact hK _ _ hb hr,?_⟩
  repeat (refine⟨_,fun f w1 h1=>by(have d0:=ct h1 hs2 e0; have d1:=ct h1 hs2 e1; go_simp; rfl),?_⟩)
  simp only[Act.put,nrA,nrB,nrC,Nat.reduceAdd]
  refine⟨fun f w1 A1 k1 hA hN hd K hK=>by
   go_simp
   refine(emul_any b s u2 vs (Un (Mo A (w.heap.size+1)) A1) w1 (later (FactU.keeps (RatO.keeps _)) h2 k1 hN) (later (FactU.keeps (RatO.keeps _)) hs k1 hN) (rcv_un (HV.out.2.2.1.below (br.drew.trans k1)) hA) k l hlb hls hkl).mono ?_
   rintro e w' ⟨v,rfl,hb,hr⟩
   exact hK _ _ hb hr,?_⟩
  intro f w1 k1 hF
  have i1:RatP (a*s) (f 3) w1 (Mo A (w.heap.size+1)):=FactU.done (RatP.keeps _) hF.1.2
  have i2:RatP (b*s) (f 7) w1 (Mo A (w.heap.size+1)):=FactU.done (RatP.keeps _) hF.2
  clear hF
  simp only[Act.put,nrA,nrB,nrC]
  generalize f 3=v1 at *
  generalize f 7=v2 at *
  have hb1:Below W.heap.size W w1:=br.drew.trans k1
  obtain⟨c0,c1,f0,f1⟩:=HV.out.2.2.2 w1 hb1
  have hbw:=HV.out.2.1.trans (hb1.mono HV.out.2.1.size)
  have HE:=Lib.hid (And.intro i1 (And.intro i2 hbw))
  obtain⟨m1,rfl⟩:=i1.shape
  obtain⟨m2,rfl⟩:=i2.shape
  clear e0 e1 h1 h2 hs i1 i2 hbw hb1 k1
  go_wp2_with fail
  refine bodyPost_ret (v:=.agg #[.pointer (some ⟨m1,0,none⟩),.pointer (some ⟨m2,0,none⟩)]) (by simp[results,Tryz.results88,go_sem,c0,c1]) rfl ?_
  exact put_num HE.out.2.2 HE.out.1 HE.out.2.1 (by omega)
end Go.Proofs.YtjlhiaafnpompaaGreat
