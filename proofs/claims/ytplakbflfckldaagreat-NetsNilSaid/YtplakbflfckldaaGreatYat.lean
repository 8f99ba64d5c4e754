/- Laws for the walk. -/
import Derived.Test.YtplakbflfckldaaGreatYak
import Derived.Test.YtplakbflfckldaaGreatYas
set_option linter.unusedVariables false
set_option maxHeartbeats 4000000
namespace Go.Proofs.YtplakbflfckldaaGreat
open Go.RowKit Tr
theorem run_conv_str(w:World)(v:Value)(s:ByteArray)(h:BSl w v s):(convert 191 9 v).run Tryz.prog w=.ok (.string s) w:=by
 obtain⟨b,off,cap,rfl,_,hb⟩:=h
 exact Lib.run_convert_whole w 191 5 9 Tryz.underlying191 Tryz.underlying5 Tryz.underlying9 b off s hb cap
theorem sign_lt(z:Int):decide (z.sign<0)=decide (z<0):=by
 rcases Int.lt_trichotomy z 0 with h|h|h
 ·rw[Int.sign_eq_neg_one_of_neg h]; simp[h]
 ·subst h; rfl
 ·rw[Int.sign_eq_one_of_pos h]; have:¬z<0:=by omega
  simp[this]
theorem new_two(w:World)(x y:Value)(T:TypeId){w1:World}(h:Below (w.alloc (.cells #[x,y] T)).heap.size (w.alloc (.cells #[x,y] T)) w1):w1.cell? ⟨w.heap.size,0,none⟩=some x∧w1.cell? ⟨w.heap.size,1,none⟩=some y∧w1.frozen? ⟨w.heap.size,0,none⟩=false∧w1.frozen? ⟨w.heap.size,1,none⟩=false:=by
 have e:=(h.block w.heap.size (by simp)).trans (heap_alloc_new w _)
 simp[World.cell?,World.frozen?,e]
set_option maxRecDepth 100000 in
theorem back_any(z:Int)(vx:Value)(A:Nat→Prop)(w:World)(hx:IntP z vx w A)(hn:(words z.natAbs).length<274877906944) :
  Calls Tryz.prog 170 #[vx] w fun e w'=>e=.returned (encZ z)∧Below w.heap.size w w':=by
 have hal:Below w.heap.size w (w.alloc (.cells #[.bool false,.string ⟨#[]⟩] 32)):=br.alloc (Nat.le_refl _) _
 obtain⟨sg,hsg⟩:∃ sg,sg=z.sign:=⟨_,rfl⟩
 have HS:=Lib.hid (Sign_any z vx A _ (hx.below hal))
 have HB:=Lib.hid (Bytes_any z vx A _ (hx.below hal) hn)
 rw[←hsg] at HS
 have HG:Hid (decide (sg<0)=decide (z<0)):=Lib.hid (by rw[hsg,sign_lt])
 clear hsg hx hal
 go_enter Tryz.func170,Tryz.ntmps170
 go_wp2_with fail
 refine HS.out.mono ?_
 rintro e w0 ⟨rfl,rfl⟩
 go_wp2_with fail
 refine HB.out.mono ?_
 rintro e w1 ⟨v,rfl,hv,hb⟩
 obtain⟨e0,e1,f0,f1⟩:=new_two w _ _ _ hb
 have hr:=run_conv_str w1 v _ hv
 have hbw:Below w.heap.size w w1:=(br.alloc (Nat.le_refl _) _).trans (hb.mono (by simp))
 obtain⟨st,hst⟩:∃ st,st=strN z.natAbs:=⟨_,rfl⟩
 rw[←hst] at hr
 have HST:=Lib.hid hst
 clear hb hv hst HS HB
 go_wp2_with fail
 refine bodyPost_ret (v:=.agg #[.bool (decide (sg<0)),.string st]) (by simp[results,Tryz.results170,go_sem,e0,e1]) rfl ⟨?_,?_⟩
 ·rw[HG.out,HST.out]; rfl
 ·exact((hbw.setCell (p:=⟨w.heap.size,0,none⟩) (Nat.le_refl _) _).setCell (p:=⟨w.heap.size,1,none⟩) (Nat.le_refl _) _)
theorem new_four(w:World)(x y z u:Value)(T:TypeId){w1:World}(h:Below (w.alloc (.cells #[x,y,z,u] T)).heap.size (w.alloc (.cells #[x,y,z,u] T)) w1):w1.cell? ⟨w.heap.size,0,none⟩=some x∧w1.cell? ⟨w.heap.size,1,none⟩=some y∧w1.cell? ⟨w.heap.size,2,none⟩=some z∧w1.cell? ⟨w.heap.size,3,none⟩=some u∧w1.frozen? ⟨w.heap.size,0,none⟩=false∧w1.frozen? ⟨w.heap.size,1,none⟩=false∧w1.frozen? ⟨w.heap.size,2,none⟩=false∧w1.frozen? ⟨w.heap.size,3,none⟩=false:=by
 have e:=(h.block w.heap.size (by simp)).trans (heap_alloc_new w _)
 simp[World.cell?,World.frozen?,e]
set_option maxRecDepth 100000 in
theorem told_any(q:Rat)(vx:Value)(A:Nat→Prop)(w:World)(hx:RatP q vx w A)(hl:RL q 137438953472) :
  Calls Tryz.prog 107 #[vx] w fun e w'=>e=.returned (encF q)∧Below w.heap.size w w':=by
 have hal:Below w.heap.size w (w.alloc (.cells #[.bool false,.string ⟨#[]⟩,.bool false,.string ⟨#[]⟩] 34)):=br.alloc (Nat.le_refl _) _
 have HX:=Lib.hid (hx.below hal)
 have HN:=Lib.hid (Num_any q vx A _ HX.out hl)
 have hln:(words q.num.natAbs).length<274877906944:=by have:=hl.1; omega
 have hld:(words (q.den:Int).natAbs).length<274877906944:=by have:=hl.2; simp; omega
 clear hx hal
 go_enter Tryz.func107,Tryz.ntmps107
 go_wp2_with fail
 refine HN.out.mono ?_
 rintro e w1 ⟨v1,rfl,hn1⟩
 have HK:=Lib.hid (back_any q.num v1 NoA w1 (hn1.2 NoA (rcv_noA _)) hln)
 go_wp2_with fail
 refine HK.out.mono ?_
 rintro e w2 ⟨rfl,hb2⟩
 have HD:=Lib.hid (Denom_any q vx A w2 ((HX.out.below hn1.1).below hb2) hl)
 go_wp2_with fail
 refine HD.out.mono ?_
 rintro e w3 ⟨v3,rfl,hn3⟩
 have HK2:=Lib.hid (back_any q.den v3 NoA w3 (hn3.2 NoA (rcv_noA _)) hld)
 go_wp2_with fail
 refine HK2.out.mono ?_
 rintro e w4 ⟨rfl,hb4⟩
 have hb13:=hn1.1.trans ((hb2.trans ((hn3.1.trans (hb4.mono hn3.1.size)).mono hb2.size)).mono hn1.1.size)
 obtain⟨e0,e1,e2,e3,f0,f1,f2,f3⟩:=new_four w _ _ _ _ _ hb13
 have hbw:Below w.heap.size w w4:=(br.alloc (Nat.le_refl _) _).trans (hb13.mono (by simp))
 obtain⟨b1,hb1⟩:∃ b1,b1=decide (q.num<0):=⟨_,rfl⟩
 obtain⟨b2,hb2'⟩:∃ b2,b2=decide ((q.den:Int)<0):=⟨_,rfl⟩
 obtain⟨s1,hs1⟩:∃ s1,s1=strN q.num.natAbs:=⟨_,rfl⟩
 obtain⟨s2,hs2⟩:∃ s2,s2=strN (q.den:Int).natAbs:=⟨_,rfl⟩
 have ez1:encZ q.num=.agg #[.bool b1,.string s1]:=by rw[hb1,hs1]; rfl
 have ez2:encZ (q.den:Int)=.agg #[.bool b2,.string s2]:=by rw[hb2',hs2]; rfl
 have HE:=Lib.hid (show encF q=.agg #[.bool b1,.string s1,.bool b2,.string s2] by unfold encF; rw[hb1,hb2',hs1,hs2]; simp)
 rw[ez1,ez2]
 clear hn1 hb2 hn3 hb4 hb13 hb1 hb2' hs1 hs2 ez1 ez2 HK HK2 HD HN
 go_wp2_with fail
 refine bodyPost_ret (v:=.agg #[.bool b1,.string s1,.bool b2,.string s2]) (by simp[results,Tryz.results107,go_sem,e0,e1,e2,e3]) rfl ⟨?_,?_⟩
 ·rw[HE.out]
 ·exact((((hbw.setCell (p:=⟨w.heap.size,0,none⟩) (Nat.le_refl _) _).setCell (p:=⟨w.heap.size,1,none⟩) (Nat.le_refl _) _).setCell (p:=⟨w.heap.size,2,none⟩) (Nat.le_refl _) _).setCell (p:=⟨w.heap.size,3,none⟩) (Nat.le_refl _) _)
set_option maxRecDepth 100000 in
theorem rat_any(n1 n2:Bool)(s1 s2:ByteArray)(hd0:numS s2≠0)(h1:s1.size<274877906944)(h2:s2.size<274877906944)(w:World) :
  Calls Tryz.prog 160 #[.agg #[.bool n1,.string s1,.bool n2,.string s2]] w fun e w'=>∃ v,e=.returned v∧NewR (Rat.divInt (sgn n1 (numS s1)) (sgn n2 (numS s2))) v w w':=by
 have hdz:sgn n2 (numS s2)≠0:=by unfold sgn; cases n2<;>simp<;>omega
 have HZ:=Lib.hid hdz
 have l1:(words (sgn n1 (numS s1)).natAbs).length<274877906944:=by rw[natAbs_sgn]; exact Nat.lt_of_le_of_lt (words_length_le (k:=s1.size) (Nat.lt_of_lt_of_le (numS_lt s1) (Nat.pow_le_pow_left (by decide) _))) h1
 have l2:(words (sgn n2 (numS s2)).natAbs).length<274877906944:=by rw[natAbs_sgn]; exact Nat.lt_of_le_of_lt (words_length_le (k:=s2.size) (Nat.lt_of_lt_of_le (numS_lt s2) (Nat.pow_le_pow_left (by decide) _))) h2
 have HL:=Lib.hid (And.intro l1 l2)
 clear hdz hd0 l1 l2
 go_enter Tryz.func160,Tryz.ntmps160
 go_wp2_with fail
 obtain⟨W,hW⟩:∃ W,W=w.alloc (.cells #[.bool n1,.string s1,.bool n2,.string s2] 34):=⟨_,rfl⟩
 have hB:Below w.heap.size w W:=by rw[hW]; exact br.alloc (Nat.le_refl _) _
 have hWs:w.heap.size<W.heap.size:=by rw[hW]; simp
 obtain⟨e0,e1,e2,e3,_⟩:=new_four w (.bool n1) (.string s1) (.bool n2) (.string s2) 34 br
 rw[←hW] at e0 e1 e2 e3 ⊢
 clear hW
 refine wp_region_inv [(.new zR,[]),(.lit,[]),(.lit,[]),(.val,[]),(.lit,[]),(.lit,[]),(.val,[]),(.on 0 zR,[3,6])]
  (pickF [(3,IntP (sgn n1 (numS s1))),(6,IntP (sgn n2 (numS s2))),(7,RatM W.heap.size (Rat.divInt (sgn n1 (numS s1)) (sgn n2 (numS s2))))]) (by kernel_rfl) ?_ ?_ (by simp[noW_zRat]) (by simp) (by kernel_rfl)
 ·exact keeps_pick (by simp[IntP.keeps,RatM.keeps])
 ·refine⟨fun f w1=>by go_simp,?_⟩
  repeat (refine⟨_,fun f w1 h1=>by(have d0:=ct h1 hWs e0; have d1:=ct h1 hWs e1; have d2:=ct h1 hWs e2; have d3:=ct h1 hWs e3; go_simp; rfl),?_⟩)
  simp only[Act.put,nrA,nrB,nrC,Nat.reduceAdd]
  refine⟨fun f w1 A1 k1 hA hN hd K hK=>by
   go_simp
   refine(number_any n1 s1 h1 w1).mono ?_
   rintro e w' ⟨v,rfl,hn⟩
   exact hK _ _ hn.1 (hn.2 A1 hA),?_⟩
  repeat (refine⟨_,fun f w1 h1=>by(have d0:=ct h1 hWs e0; have d1:=ct h1 hWs e1; have d2:=ct h1 hWs e2; have d3:=ct h1 hWs e3; go_simp; rfl),?_⟩)
  simp only[Act.put,nrA,nrB,nrC,Nat.reduceAdd]
  refine⟨fun f w1 A1 k1 hA hN hd K hK=>by
   go_simp
   refine(number_any n2 s2 h2 w1).mono ?_
   rintro e w' ⟨v,rfl,hn⟩
   exact hK _ _ hn.1 (hn.2 A1 hA),?_⟩
  simp only[Act.put,nrA,nrB,nrC,Nat.reduceAdd]
  refine⟨fun f w1 A1 m1 k1 hA hN hAm hm0 e hz hd K hK=>by
   simp only[e] at hK ⊢
   have i1:IntP (sgn n1 (numS s1)) (f 3) w1 A1:=hd 3 (by simp)
   have i2:IntP (sgn n2 (numS s2)) (f 6) w1 A1:=hd 6 (by simp)
   go_simp
   refine(SetFrac_any m1 _ _ _ HZ.out _ _ A1 w1 hz (by decide) noW_zRat i1 i2 HL.out.1 HL.out.2).mono ?_
   rintro e w' ⟨rfl,hp⟩
   exact hK _ w' hp.1 (hp.ratM hm0 hA),?_⟩
  intro f w1 k1 hF
  have i1:RatM W.heap.size (Rat.divInt (sgn n1 (numS s1)) (sgn n2 (numS s2))) (f 7) w1 NoA:=hF.2
  clear hF
  simp only[Act.put,nrA,nrB,nrC]
  generalize f 3=v3
  generalize f 6=v6
  generalize f 7=v7 at *
  have hbw:Below W.heap.size W w1:=br.drew.trans k1
  have hn:=i1.new (hB.trans (hbw.mono hB.size)) hB.size
  have HN:=Lib.hid hn
  clear hn i1
  go_wp2
  go_ret
  exact⟨v7,rfl,HN.out⟩
end Go.Proofs.YtplakbflfckldaaGreat
namespace Tr
end Tr
namespace Go.Proofs.YtplakbflfckldaaGreat
open Go.RowKit Tr
end Go.Proofs.YtplakbflfckldaaGreat
namespace Tr
open Go Go.RowKit
section
variable{P:Program}{L:List GF}
def cmpB(op:BinOp)(a b:Int):Option Bool:=match op with
 | .eql=>some (a == b)|.neq=>some (a != b)|.lss=>some (decide (a<b))|.leq=>some (decide (a≤b))|.gtr=>some (decide (a>b))|.geq=>some (decide (a≥b))|_=>none
theorem int_cmp(op:BinOp)(t:TypeId)(k:IntKind)(a b:Int)(c:Bool)(hc:cmpB op a b=some c):∀(xo yo:Operand) (w:World),(do eqGuard op t xo yo (.int k a) (.int k b); binOp op t (.int k a) (.int k b):Sem Value).run P w=.ok (.bool c) w:=by
 intro xo yo w
 cases op<;>simp only[cmpB,Option.some.injEq] at hc<;>first|(cases hc; done)|(subst hc; simp[eqGuard,binOp,Op.intCmp])
def gbInt(op:BinOp)(t:TypeId)(k:IntKind)(x y:AC)(a b:Int)(c:Bool)(h:cmpB op a b=some c)(hx:x.gv L=some (.int k a):=by rfl)(hy:y.gv L=some (.int k b):=by rfl):GB P L:=gb op t (.c x) (.c y) (.lit (.bool c)) (int_cmp op t k a b c h) hx hy rfl
end
end Tr
namespace Go.Proofs.YtplakbflfckldaaGreat
open Go.RowKit Tr
end Go.Proofs.YtplakbflfckldaaGreat
namespace Tr
open Go Go.RowKit
end Tr
namespace Go.Proofs.YtplakbflfckldaaGreat
open Go.RowKit Tr
def WL(n k:Nat):Prop:=(words n).length≤k
theorem WL.mono{n j k:Nat}(h:WL n j)(hk:j≤k):WL n k:=Nat.le_trans h hk
theorem WL.size{n k:Nat}(h:WL n k):(strN n).size≤4*k:=by
 rw[size_strN]
 refine byteLE_le (Nat.lt_of_lt_of_le (lt_words n) ?_)
 rw[show(256:Nat) ^ (4*k)=4294967296 ^ k by rw[Nat.pow_mul]]
 exact Nat.pow_le_pow_right (by decide) h
def cz(z:Int):List GF:=[gx (.bool (decide (z<0))),gx (.string (strN z.natAbs))]
end Go.Proofs.YtplakbflfckldaaGreat
namespace Go.Proofs.YtplakbflfckldaaGreat
open Go.RowKit Tr
theorem WL.mod{a b k:Nat}(h:WL a k):WL (a % b) k:=wl_mono (Nat.mod_le a b) h
theorem WL.one:WL 1 1:=words_length_le (by decide)
theorem WL.zero(k:Nat):WL 0 k:=by unfold WL; rw[words_zero]; exact Nat.zero_le _
end Go.Proofs.YtplakbflfckldaaGreat
namespace Tr
open Go Go.RowKit
end Tr
namespace Go.Proofs.YtplakbflfckldaaGreat
open Go.RowKit Tr
end Go.Proofs.YtplakbflfckldaaGreat
namespace Go.Proofs.YtplakbflfckldaaGreat
open Go.RowKit Tr
theorem WL.i{n k:Nat}(h:WL n k):WL (n:Int).natAbs k:=by rw[Int.natAbs_natCast]; exact h
theorem WL.mul{x y:Int}{j k:Nat}(hx:WL x.natAbs j)(hy:WL y.natAbs k):WL (x*y).natAbs (j+k):=by rw[Int.natAbs_mul]; exact wl_mul hx hy
theorem WL.add{x y:Int}{k:Nat}(hx:WL x.natAbs k)(hy:WL y.natAbs k):WL (x+y).natAbs (k+1):=wl_mono (Int.natAbs_add_le x y) (wl_add hx hy)
theorem WL.neg{x:Int}{k:Nat}(hx:WL x.natAbs k):WL (-x).natAbs k:=by rw[Int.natAbs_neg]; exact hx
end Go.Proofs.YtplakbflfckldaaGreat
namespace Go.Proofs.YtplakbflfckldaaGreat
open Go.RowKit Tr
theorem size_nil{s:ByteArray}(h:s.size=0):s=⟨#[]⟩:=by
 apply ByteArray.ext
 apply Array.eq_empty_of_size_eq_zero
 exact h
set_option maxRecDepth 100000 in
theorem check_nil(neg:Bool)(w:World) :
  Calls Tryz.prog 157 #[.agg #[.bool neg,.string ⟨#[]⟩]] w fun e w'=>e=.returned (.int .i64 (if neg then 2 else 0))∧Below w.heap.size w w':=by
 cases neg
 ·go_enter Tryz.func157,Tryz.ntmps157
  go_wp2
  go_ret
  exact⟨rfl,br.alloc (Nat.le_refl _) _⟩
 ·go_enter Tryz.func157,Tryz.ntmps157
  go_wp2
  go_ret
  exact⟨rfl,br.alloc (Nat.le_refl _) _⟩
set_option maxRecDepth 100000 in
theorem check_some(neg:Bool)(s:ByteArray)(hs:0<s.size)(r:Int)(hr:r=if s[0].toNat=0∨16384<s.size then 2 else 0)(w:World) :
  Calls Tryz.prog 157 #[.agg #[.bool neg,.string s]] w fun e w'=>e=.returned (.int .i64 r)∧Below w.heap.size w w':=by
 have hne:¬s.toList=[]:=fun h=>by
  have h2:s.toList.length=s.size:=by rw[ByteArray.toList_eq]; simp
  rw[h] at h2; simp at h2; omega
 have hne2:(!s.toList.isEmpty)=true:=by simpa using hne
 by_cases hx:s[0].toNat=0
 ·rw[if_pos (.inl hx)] at hr
  subst hr
  have hb:(((s[0].toNat:Nat):Int) == 0)=true:=by rw[hx]; rfl
  go_enter Tryz.func157,Tryz.ntmps157
  go_wp2
  all_goals go_ret
  all_goals exact⟨rfl,br.alloc (Nat.le_refl _) _⟩
 ·have hb:(((s[0].toNat:Nat):Int) == 0)=false:=by simpa using hx
  by_cases hl:16384<s.size
  ·rw[if_pos (.inr hl)] at hr
   subst hr
   have hl2:(16384:Int)<(s.size:Int):=by omega
   go_enter Tryz.func157,Tryz.ntmps157
   go_wp2
   all_goals go_ret
   all_goals exact⟨rfl,br.alloc (Nat.le_refl _) _⟩
  ·rw[if_neg (by omega)] at hr
   subst hr
   have hl2:¬(16384:Int)<(s.size:Int):=by omega
   go_enter Tryz.func157,Tryz.ntmps157
   go_wp2
   all_goals go_ret
   all_goals exact⟨rfl,br.alloc (Nat.le_refl _) _⟩
def OkW(neg:Bool)(s:ByteArray):Prop:=WForm neg s∧s.size≤16384
theorem noLead_nil:NoLead ⟨#[]⟩:=fun x l h=>by simp at h
theorem lead_head{s:ByteArray}(hs:0<s.size):NoLead s↔s[0].toNat≠0:=by
  have e:s.data.toList=s[0] :: s.data.toList.tail:=by
    cases h:s.data.toList with
    | nil => have : s.data.toList.length = s.size := by simp
             rw[h] at this; simp at this; omega
    | cons x l =>
      have h0:s.data[0]?=some x:=by rw[←Array.getElem?_toList,h]; rfl
      have h1:s[0]=x:=by
        have h2:s.data[0]?=some s[0]:=Array.getElem?_eq_getElem hs
        rw[h2] at h0; simpa using h0
      rw[h1]; rfl
  constructor
  · intro h hx
    exact h _ _ e (UInt8.toNat_inj.1 hx)
  · intro h x l hl hx
    rw[e] at hl
    simp at hl
    rw[←hl.1] at hx
    exact h (by rw[hx]; rfl)
theorem check_ok{neg:Bool}{s:ByteArray}(h:OkW neg s)(w:World):Calls Tryz.prog 157 #[.agg #[.bool neg,.string s]] w fun e w'=>e=.returned (.int .i64 0)∧Below w.heap.size w w':=by
 rcases Nat.eq_zero_or_pos s.size with h0|h0
 ·have:=h.1.1 h0
  subst this
  rw[size_nil h0]
  exact check_nil false w
 ·exact check_some neg s h0 0 (by rw[if_neg]; have:=(lead_head h0).1 h.1.2; have:=h.2; omega) w
theorem check_bad{neg:Bool}{s:ByteArray}(h:¬OkW neg s)(w:World):Calls Tryz.prog 157 #[.agg #[.bool neg,.string s]] w fun e w'=>e=.returned (.int .i64 2)∧Below w.heap.size w w':=by
 rcases Nat.eq_zero_or_pos s.size with h0|h0
 ·have hs:=size_nil h0
  subst hs
  cases neg
  ·exact absurd ⟨⟨fun _=>rfl,noLead_nil⟩,by decide⟩ h
  ·exact check_nil true w
 ·refine check_some neg s h0 2 ?_ w
  rw[if_pos]
  by_cases h1:s[0].toNat=0
  ·exact .inl h1
  ·right
   rcases Nat.lt_or_ge 16384 s.size with h2|h2
   ·exact h2
   ·exact absurd ⟨⟨fun h3=>by omega,(lead_head h0).2 h1⟩,h2⟩ h
set_option maxRecDepth 100000 in
theorem wsign_ok{neg:Bool}{s:ByteArray}(h:OkW neg s)(w:World):Calls Tryz.prog 159 #[.agg #[.bool neg,.string s]] w fun e w'=>e=.returned (.int .i64 (sgn neg (numS s)).sign)∧Below w.heap.size w w':=by
 have HC:=Lib.hid (fun w=>check_ok h w)
 obtain⟨r,hr⟩:∃ r,r=(sgn neg (numS s)).sign:=⟨_,rfl⟩
 rw[←hr]
 have HR:=Lib.hid (And.intro hr h)
 clear hr h
 have arm:∀(w1:World),Below (w.alloc (.cells #[.bool neg,.string s] 32)).heap.size (w.alloc (.cells #[.bool neg,.string s] 32)) w1→w1.cell? ⟨w.heap.size,0,none⟩=some (.bool neg)∧w1.cell? ⟨w.heap.size,1,none⟩=some (.string s)∧Below w.heap.size w w1:=fun w1 hb=>by
  obtain⟨e0,e1,_⟩:=new_two w _ _ _ hb
  exact⟨e0,e1,(br.alloc (Nat.le_refl _) _).trans (hb.mono (by simp))⟩
 have HA:=Lib.hid arm
 clear arm
 rcases Nat.eq_zero_or_pos s.size with h0|h0
 ·obtain rfl:neg=false:=HR.out.2.1.1 h0
  obtain rfl:=size_nil h0
  have h1:r=0:=by rw[HR.out.1,(numS_zero noLead_nil).2 rfl]; rfl
  subst h1
  clear h0
  go_enter Tryz.func159,Tryz.ntmps159
  go_wp2_with (go_at_call 157; refine(HC.out _).mono ?_; rintro e w1 ⟨rfl,hb⟩; obtain⟨e0,e1,hbw⟩:=HA.out w1 hb; clear hb)
  go_ret
  exact⟨rfl,hbw⟩
 ·have hne:¬s.toList=[]:=fun h=>by
   have h2:s.toList.length=s.size:=by rw[ByteArray.toList_eq]; simp
   rw[h] at h2; simp at h2; omega
  have hne2:(!s.toList.isEmpty)=true:=by simpa using hne
  have hn0:numS s≠0:=fun h=>by have:=(numS_zero HR.out.2.1.2).1 h; omega
  cases neg
  ·have h1:r=1:=by rw[HR.out.1]; unfold sgn; exact Int.sign_eq_one_of_pos (by simp; omega)
   subst h1
   clear hn0
   go_enter Tryz.func159,Tryz.ntmps159
   go_wp2_with (go_at_call 157; refine(HC.out _).mono ?_; rintro e w1 ⟨rfl,hb⟩; obtain⟨e0,e1,hbw⟩:=HA.out w1 hb; clear hb)
   go_ret
   exact⟨rfl,hbw⟩
  ·have h1:r=-1:=by rw[HR.out.1]; unfold sgn; exact Int.sign_eq_neg_one_of_neg (by simp; omega)
   subst h1
   clear hn0
   go_enter Tryz.func159,Tryz.ntmps159
   go_wp2_with (go_at_call 157; refine(HC.out _).mono ?_; rintro e w1 ⟨rfl,hb⟩; obtain⟨e0,e1,hbw⟩:=HA.out w1 hb; clear hb)
   go_ret
   exact⟨rfl,hbw⟩
set_option maxRecDepth 100000 in
theorem short_ok(neg:Bool)(s:ByteArray)(b:Bool)(hb:b=decide ((s.size:Int)≤1024))(w:World):Calls Tryz.prog 158 #[.agg #[.bool neg,.string s]] w fun e w'=>e=.returned (.bool b)∧Below w.heap.size w w':=by
 subst hb
 go_enter Tryz.func158,Tryz.ntmps158
 go_wp2
 go_ret
 exact⟨rfl,br.alloc (Nat.le_refl _) _⟩
end Go.Proofs.YtplakbflfckldaaGreat
namespace Go.Proofs.YtplakbflfckldaaGreat
open Go.RowKit Tr
def FracOk(v:Value):Prop:=∃ q:Rat,v=encF q∧(strN q.num.natAbs).size≤1024∧(strN q.den).size≤1024
open Classical in
noncomputable def chkR(neg:Bool)(s:ByteArray):Int:=if OkW neg s then 0 else 2
theorem chkR_any(neg:Bool)(s:ByteArray)(w:World):Calls Tryz.prog 157 #[.agg #[.bool neg,.string s]] w fun e w'=>e=.returned (.int .i64 (chkR neg s))∧Below w.heap.size w w':=by
 unfold chkR
 split
 ·rename_i h; exact check_ok h w
 ·rename_i h; exact check_bad h w
theorem chkR_zero{neg:Bool}{s:ByteArray}:chkR neg s=0↔OkW neg s:=by unfold chkR; split<;>simp[*]
theorem okW_strN(z:Int)(h:(strN z.natAbs).size≤16384):OkW (decide (z<0)) (strN z.natAbs):=by
 refine⟨⟨fun h0=>?_,noLead_strN _⟩,h⟩
 have:z.natAbs=0:=by
  have:=(numS_zero (noLead_strN z.natAbs)).2 h0
  rwa[numS_strN] at this
 have:z=0:=by omega
 subst this; rfl
theorem encF_parts{q:Rat}{n1 n2:Bool}{s1 s2:ByteArray}(h:Value.agg #[.bool n1,.string s1,.bool n2,.string s2]=encF q):n1=decide (q.num<0)∧s1=strN q.num.natAbs∧n2=false∧s2=strN q.den:=by
 unfold encF at h
 simpa using h
theorem encF_divInt{q:Rat}{n1 n2:Bool}{s1 s2:ByteArray}(h:Value.agg #[.bool n1,.string s1,.bool n2,.string s2]=encF q):Rat.divInt (sgn n1 (numS s1)) (sgn n2 (numS s2))=q:=by
 obtain⟨rfl,rfl,rfl,rfl⟩:=encF_parts h
 rw[numS_strN,numS_strN,sgn_self]
 show Rat.divInt q.num ((q.den:Nat):Int)=q
 exact Rat.num_divInt_den q
theorem toL_iff{a b:ByteArray}:a.toList=b.toList↔a=b:=by
 rw[ByteArray.toList_eq,ByteArray.toList_eq]
 constructor
 ·intro h; cases a; cases b; simp_all
 ·rintro rfl; rfl
theorem wl_size{n:Nat}{s:ByteArray}(h:numS s=n):(words n).length≤s.size:=by
 subst h
 exact words_length_le (Nat.lt_of_lt_of_le (numS_lt s) (Nat.pow_le_pow_left (by decide) _))
set_option maxRecDepth 100000 in
theorem May_any (n1 n2 : Bool) (s1 s2 : ByteArray) (h1 : s1.size < 274877906944) (h2 : s2.size < 274877906944) (r : Bool) (hr : r = true ↔ FracOk (.agg #[.bool n1,.string s1,.bool n2,.string s2])) (w : World) :
    Calls Tryz.prog 102 #[.agg #[.bool n1,.string s1,.bool n2,.string s2]] w fun e w'=>e=.returned (.bool r)∧Below w.heap.size w w':=by
  have HR:=Lib.hid hr
  have HK:=Lib.hid (fun neg s w=>chkR_any neg s w)
  clear hr
  have HF:=Lib.hid (fun(h:¬FracOk (.agg #[.bool n1,.string s1,.bool n2,.string s2]))=>show r=false by cases hr:r; rfl; exact absurd (HR.out.1 hr) h)
  have HAL:=Lib.hid (show Below w.heap.size w (w.alloc (.cells #[.bool n1,.string s1,.bool n2,.string s2] 34)) from br.alloc (Nat.le_refl _) _)
  -- what a fraction that may be says of the parts
  have HP:=Lib.hid (fun(h:FracOk (.agg #[.bool n1,.string s1,.bool n2,.string s2]))=>show OkW n1 s1∧OkW n2 s2∧s1.size≤1024∧s2.size≤1024∧n2=false∧0<s2.size by
    obtain⟨q,e,k1,k2⟩:=h
    obtain⟨rfl,rfl,rfl,rfl⟩:=encF_parts e
    refine⟨okW_strN _ (by omega),?_,k1,k2,rfl,?_⟩
    · have:=okW_strN (q.den:Int) (by simp; omega)
      rw[show decide ((q.den:Int)<0)=false by simp] at this
      simpa using this
    · rcases Nat.eq_zero_or_pos (strN q.den).size with h0|h0
      · have:=(numS_zero (noLead_strN q.den)).2 h0
        rw[numS_strN] at this
        exact absurd this q.den_nz
      · exact h0)
  go_enter Tryz.func102,Tryz.ntmps102
  go_wp2_with fail
  refine(HK.out n1 s1 _).mono ?_
  rintro e w1 ⟨rfl,hb1⟩
  obtain⟨e0,e1,e2,e3,_⟩:=new_four w _ _ _ _ _ hb1
  by_cases c1:chkR n1 s1=0
  · rw[c1]
    go_wp2_with fail
    refine(HK.out n2 s2 _).mono ?_
    rintro e w2 ⟨rfl,hb2⟩
    have hb12:=hb1.trans (hb2.mono hb1.size)
    clear e0 e1 e2 e3
    obtain⟨e0,e1,e2,e3,_⟩:=new_four w _ _ _ _ _ hb12
    by_cases c2:chkR n2 s2=0
    · rw[c2]
      have k1:=chkR_zero.1 c1
      have k2:=chkR_zero.1 c2
      obtain⟨b1,hb1'⟩:∃ b1,b1=decide ((s1.size:Int)≤1024):=⟨_,rfl⟩
      obtain⟨b2,hb2'⟩:∃ b2,b2=decide ((s2.size:Int)≤1024):=⟨_,rfl⟩
      have HB:=Lib.hid (And.intro hb1' hb2')
      clear hb1' hb2'
      go_wp2_with fail
      refine(short_ok n1 s1 b1 HB.out.1 _).mono ?_
      rintro e w3 ⟨rfl,hb3⟩
      have hb13:=hb12.trans (hb3.mono hb12.size)
      clear e0 e1 e2 e3
      obtain⟨e0,e1,e2,e3,_⟩:=new_four w _ _ _ _ _ hb13
      cases b1
      · go_wp2
        go_ret
        exact⟨by rw[HF.out (fun hk=>by have h1:=(HP.out hk).2.2.1; have h2:=HB.out.1; simp at h2; omega)]; rfl,HAL.out.trans (hb13.mono (by simp))⟩
      · go_wp2_with fail
        refine(short_ok n2 s2 b2 HB.out.2 _).mono ?_
        rintro e w4 ⟨rfl,hb4⟩
        have hb14:=hb13.trans (hb4.mono hb13.size)
        clear e0 e1 e2 e3
        obtain⟨e0,e1,e2,e3,_⟩:=new_four w _ _ _ _ _ hb14
        cases b2
        · go_wp2
          go_ret
          exact⟨by rw[HF.out (fun hk=>by have h1:=(HP.out hk).2.2.2.1; have h2:=HB.out.2; simp at h2; omega)]; rfl,HAL.out.trans (hb14.mono (by simp))⟩
        · obtain⟨sg,hsg⟩:∃ sg,sg=(sgn n2 (numS s2)).sign:=⟨_,rfl⟩
          have HS:=Lib.hid (fun w=>wsign_ok k2 w)
          rw[←hsg] at HS
          have HG:=Lib.hid hsg
          clear hsg
          go_wp2_with fail
          refine(HS.out _).mono ?_
          rintro e w5 ⟨rfl,hb5⟩
          have hb15:=hb14.trans (hb5.mono hb14.size)
          clear e0 e1 e2 e3
          obtain⟨e0,e1,e2,e3,_⟩:=new_four w _ _ _ _ _ hb15
          by_cases c3:sg≤0
          · go_wp2
            go_ret
            have hno:¬FracOk (.agg #[.bool n1,.string s1,.bool n2,.string s2]):=fun hk=>by
              obtain⟨_,_,_,_,h1,h2⟩:=HP.out hk
              subst h1
              have h3:numS s2≠0:=fun h=>by have:=(numS_zero k2.1.2).1 h; omega
              have h4:sg=1:=by rw[HG.out]; unfold sgn; exact Int.sign_eq_one_of_pos (by simp; omega)
              omega
            exact⟨by rw[HF.out hno]; rfl,HAL.out.trans (hb15.mono (by simp))⟩
          · have hn2 : n2 = false := by
              cases n2
              · rfl
              · exfalso
                apply c3
                rw[HG.out]; unfold sgn
                rcases Nat.eq_zero_or_pos (numS s2) with h|h
                · simp[h]
                · rw[Int.sign_eq_neg_one_of_neg (by simp; omega)]; decide
            have hd0:numS s2≠0:=fun h=>by
              apply c3
              rw[HG.out,h]; unfold sgn; simp
            have hBw:=HAL.out.trans (hb15.mono (by simp))
            have hlt:w.heap.size<w5.heap.size:=by have:=hb15.size; simp at this; omega
            have HQ:=Lib.hid (And.intro k1 (And.intro k2 (And.intro hd0 hBw)))
            clear HS HG hb1 hb2 hb3 hb4 hb5 hb12 hb13 hb14 hb15 k1 k2 hd0 hBw c1 c2
            subst hn2
            obtain⟨q,hq⟩:∃ q,q=Rat.divInt (sgn n1 (numS s1)) (sgn false (numS s2)):=⟨_,rfl⟩
            have HRat:=Lib.hid (fun w=>rat_any n1 false s1 s2 HQ.out.2.2.1 h1 h2 w)
            rw[←hq] at HRat
            have hql:RL q 137438953472:=by
              rw[hq]
              refine(RL_divInt (k:=1024) (by unfold sgn; simpa using HQ.out.2.2.1) ?_ ?_).mono (by decide)
              · rw[natAbs_sgn]; exact Nat.le_trans (wl_size rfl) (by have:=HB.out.1; simp at this; omega)
              · rw[natAbs_sgn]; exact Nat.le_trans (wl_size rfl) (by have:=HB.out.2; simp at this; omega)
            have hre:(r=true)↔Value.agg #[.bool n1,.string s1,.bool false,.string s2]=encF q:=by
              constructor
              · intro hr
                obtain⟨q',hq',_⟩:=HR.out.1 hr
                have:=encF_divInt hq'
                rw[←hq] at this
                rw[this]; exact hq'
              · intro he
                obtain⟨a1,a2,a3,a4⟩:=encF_parts he
                refine HR.out.2 ⟨q,he,?_,?_⟩
                · rw[←a2]; have:=HB.out.1; simp at this; omega
                · rw[←a4]; have:=HB.out.2; simp at this; omega
            obtain⟨bq,hbq⟩:∃ bq,bq=decide (q.num<0):=⟨_,rfl⟩
            obtain⟨t1,ht1⟩:∃ t1,t1=strN q.num.natAbs:=⟨_,rfl⟩
            obtain⟨t2,ht2⟩:∃ t2,t2=strN q.den:=⟨_,rfl⟩
            have heq:encF q=.agg #[.bool bq,.string t1,.bool false,.string t2]:=by rw[hbq,ht1,ht2]; rfl
            rw[heq] at hre
            have HRE:=Lib.hid (And.intro hre (And.intro hql heq))
            clear hq hbq ht1 ht2 heq hql hre HB HP
            go_wp2_with fail
            refine wp_region_inv [(.lit,[]),(.val,[]),(.val,[1]),(.lit,[])]
              (pickF [(1,RatP q),(2,fun v _ _=>v=.agg #[.bool bq,.string t1,.bool false,.string t2])]) (by kernel_rfl) ?_ ?_ (by simp) (by simp) (by kernel_rfl)
            · exact keeps_pick (by simp only[List.mem_cons,List.not_mem_nil,or_false]; rintro p (rfl|rfl); exact RatP.keeps q; exact fun _ _ _ _ _ _ _ h=>h)
            · refine⟨_,fun f w1 h1=>by(have d0:=ct h1 hlt e0; have d1:=ct h1 hlt e1; have d2:=ct h1 hlt e2; have d3:=ct h1 hlt e3; go_simp; rfl),?_⟩
              simp only[Act.put,nrA,nrB,nrC,Nat.reduceAdd]
              refine⟨fun f w1 A1 k1 hA hN hd K hK=>by
                go_simp
                refine(HRat.out w1).mono ?_
                rintro e w' ⟨v,rfl,hn⟩
                exact hK _ _ hn.1 (hn.2 A1 hA),?_⟩
              simp only[Act.put,nrA,nrB,nrC,Nat.reduceAdd]
              refine⟨fun f w1 A1 k1 hA hN hd K hK=>by
                have i1:RatP q (f 1) w1 A1:=hd 1 (by simp)
                go_simp
                refine(told_any q _ A1 w1 i1 HRE.out.2.1).mono ?_
                rintro e w' ⟨rfl,hb⟩
                exact hK _ _ hb HRE.out.2.2,?_⟩
              simp only[Act.put,nrA,nrB,nrC,Nat.reduceAdd]
              refine⟨_,fun f w1 h1=>by(have d0:=ct h1 hlt e0; have d1:=ct h1 hlt e1; have d2:=ct h1 hlt e2; have d3:=ct h1 hlt e3; go_simp; rfl),?_⟩
              intro f w1 k1 hF
              have i2:f 2=.agg #[.bool bq,.string t1,.bool false,.string t2]:=hF.2
              clear hF
              simp only[Act.put,nrA,nrB,nrC]
              rw[i2]
              generalize f 1=v1
              clear i2
              go_wp2
              all_goals (
                go_ret
                refine⟨?_,HQ.out.2.2.2.trans ((br.drew.trans k1).mono HQ.out.2.2.2.size)⟩
                have hre:=HRE.out.1
                simp only[Value.agg.injEq,Array.mk.injEq,List.cons.injEq,Value.bool.injEq,Value.string.injEq,true_and,and_true] at hre
                simp only[toL_iff] at *
                first
                  | (have hr : r = true := hre.2 (by simp [*])
                     rw[hr]; rfl)
                  | (have hr : r = false := by
                       cases h:r
                       · rfl
                       · obtain⟨a,b,c⟩:=hre.1 h
                         exfalso
                         subst a b c
                         contradiction
                     rw[hr]; rfl))
    · go_wp2
      go_ret
      exact⟨by rw[HF.out (fun hk=>c2 (chkR_zero.2 (HP.out hk).2.1))]; rfl,HAL.out.trans (hb12.mono (by simp))⟩
  · go_wp2
    go_ret
    exact⟨by rw[HF.out (fun hk=>c1 (chkR_zero.2 (HP.out hk).1))]; rfl,HAL.out.trans (hb1.mono (by simp))⟩
theorem RL_int(n:Int){k:Nat}(h:(words n.natAbs).length≤k)(hk:1≤k):RL (n:Rat) k:=by
 refine⟨?_,?_⟩
 ·rw[Rat.num_intCast]; exact h
 ·rw[Rat.den_intCast]; exact Nat.le_trans (words_length_le (k:=1) (by decide)) hk
theorem RL_i64(n:Int)(h0:-9223372036854775808≤n)(h1:n<9223372036854775808):RL (n:Rat) 2:=RL_int n (words_length_le (k:=2) (by omega)) (by decide)
theorem encF_two(q:Rat):∃ b1 t1 t2,encF q=.agg #[.bool b1,.string t1,.bool false,.string t2]:=⟨_,_,_,rfl⟩
set_option maxRecDepth 100000 in
theorem FInt_any(n:Int)(hn0:-9223372036854775808≤n)(hn1:n<9223372036854775808)(w:World) :
  Calls Tryz.prog 52 #[.int .i64 n] w fun e w'=>e=.returned (encF n)∧Below w.heap.size w w':=by
 have HA:=Lib.hid (show Below w.heap.size w (w.alloc (.cells #[.bool false,.string ⟨#[]⟩,.bool false,.string ⟨#[]⟩] 34)) from br.alloc (Nat.le_refl _) _)
 have HS:=Lib.hid (RSetInt64_any (w.heap.size+1) _ n hn0 hn1 ((w.alloc (.cells #[.bool false,.string ⟨#[]⟩,.bool false,.string ⟨#[]⟩] 34)).alloc zR) (by have:=heap_alloc_new (w.alloc (.cells #[.bool false,.string ⟨#[]⟩,.bool false,.string ⟨#[]⟩] 34)) zR; simpa using this) (by decide) noW_zRat)
 go_enter Tryz.func52,Tryz.ntmps52
 go_wp2_with fail
 refine HS.out.mono ?_
 rintro e w1 ⟨rfl,hp⟩
 have hr:=(hp.ratP (rcv_noA _)).noA
 have HT:=Lib.hid (told_any _ _ NoA w1 hr ((RL_i64 n hn0 hn1).mono (by decide)))
 have hz:(w.alloc (.cells #[.bool false,.string ⟨#[]⟩,.bool false,.string ⟨#[]⟩] 34)).heap.size=w.heap.size+1:=by simp
 have hb1:=below_of_alloc (by rw[hz]; exact hp.1)
 clear HS hp hr
 go_wp2_with fail
 refine HT.out.mono ?_
 rintro e w2 ⟨rfl,hb2⟩
 have hb12:=hb1.trans (hb2.mono hb1.size)
 obtain⟨e0,e1,e2,e3,f0,f1,f2,f3⟩:=new_four w _ _ _ _ _ hb12
 have HB:=Lib.hid (HA.out.trans (hb12.mono (by simp)))
 obtain⟨b1,t1,t2,he⟩:=encF_two n
 have HE:=Lib.hid he
 rw[he]
 clear he hb1 hb2 hb12 HT hz
 go_wp2_with fail
 refine bodyPost_ret (v:=.agg #[.bool b1,.string t1,.bool false,.string t2]) (by simp[results,Tryz.results52,go_sem,e0,e1,e2,e3]) rfl ⟨by rw[HE.out],?_⟩
 exact((((HB.out.setCell (p:=⟨w.heap.size,0,none⟩) (Nat.le_refl _) _).setCell (p:=⟨w.heap.size,1,none⟩) (Nat.le_refl _) _).setCell (p:=⟨w.heap.size,2,none⟩) (Nat.le_refl _) _).setCell (p:=⟨w.heap.size,3,none⟩) (Nat.le_refl _) _)
end Go.Proofs.YtplakbflfckldaaGreat
namespace Go.Proofs.YtplakbflfckldaaGreat
open Go.RowKit Tr
end Go.Proofs.YtplakbflfckldaaGreat
