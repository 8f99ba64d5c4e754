/- Laws for the walk. -/
import Derived.Test.YthklnbaddobieaaGreatUah
import Derived.Test.YthklnbaddobieaaGreatUai
set_option linter.unusedVariables false
set_option maxHeartbeats 4000000
namespace Go.Proofs.YthklnbaddobieaaGreat
open Go.RowKit Tr
def WSlA(A:Nat→Prop)(w:World)(v:Value)(l:List Nat):Prop :=
 ∃ p cap,v=.slice p l.length cap∧l.length≤cap∧(l≠[]→∃ b off,p=some ⟨b,off,none⟩∧b<w.heap.size∧¬A b∧∀ j,j<l.length→w.cell? ⟨b,off+j,none⟩=some (.int .u32 (l[j]?.getD 0:Nat)))
theorem WSlA.wsl{A:Nat→Prop}{w:World}{v:Value}{l:List Nat}(h:WSlA A w v l):WSl w v l:=by
 obtain⟨p,cap,h1,h2,h3⟩:=h
 exact⟨p,cap,h1,h2,fun hne=>by obtain⟨b,off,h4,h5,_,h6⟩:=h3 hne; exact⟨b,off,h4,h5,h6⟩⟩
theorem cell_noW{w:World}{b i:Nat}{z:Obj}(h:w.heap[b]?=some z)(hz:NoW z)(k:Unit)(x:Int):w.cell? ⟨b,i,none⟩≠some (.int .u32 x):=by
 intro hc
 unfold World.cell? at hc
 simp only[h] at hc
 cases z with
 | cells cs T fr =>
  simp at hc
  exact hz cs T fr rfl i k x hc
 | _=>simp at hc
theorem WSl.avoids{A:Nat→Prop}{w:World}{v:Value}{l:List Nat}(h:WSl w v l)(hA:Rcv A w):WSlA A w v l:=by
 obtain⟨p,cap,h1,h2,h3⟩:=h
 refine⟨p,cap,h1,h2,fun hne=>?_⟩
 obtain⟨b,off,h4,h5,h6⟩:=h3 hne
 refine⟨b,off,h4,h5,fun hb=>?_,h6⟩
 obtain⟨z,hz,hn⟩:=hA b hb
 have:=h6 0 (List.length_pos_iff.2 hne)
 exact cell_noW hz hn () _ this
theorem WSlA.keep{A A':Nat→Prop}{w w':World}{v:Value}{l:List Nat}(hs:w.heap.size≤w'.heap.size)(hk:∀ b,b<w.heap.size→¬A b→w'.heap[b]?=w.heap[b]?∧¬A' b)(h:WSlA A w v l):WSlA A' w' v l:=by
 obtain⟨p,cap,h1,h2,h3⟩:=h
 refine⟨p,cap,h1,h2,fun hne=>?_⟩
 obtain⟨b,off,h4,h5,h6,h7⟩:=h3 hne
 obtain⟨k1,k2⟩:=hk b h5 h6
 exact⟨b,off,h4,Nat.lt_of_lt_of_le h5 hs,k2,fun j hj=>(World.cell?_of_block (w:=w) k1).trans (h7 j hj)⟩
def IntP(z:Int):Fact:=fun v w A=>∃ b o sl,v=.pointer (some ⟨b,o,none⟩)∧b<w.heap.size∧¬A b∧w.cell? ⟨b,o,none⟩=some (.bool (decide (z<0)))∧w.cell? ⟨b,o+1,none⟩=some sl∧WSlA A w sl (words z.natAbs)
theorem IntP.keeps(z:Int):(IntP z).Keeps:=by
 intro v w w' A A' hs hk ⟨b,o,sl,h1,h2,h3,h4,h5,h6⟩
 obtain⟨k1,k2⟩:=hk b h2 h3
 exact⟨b,o,sl,h1,Nat.lt_of_lt_of_le h2 hs,k2,(World.cell?_of_block (w:=w) k1).trans h4,(World.cell?_of_block (w:=w) k1).trans h5,h6.keep hs hk⟩
def RatP(q:Rat):Fact:=fun v w A=>∃ b,v=.pointer (some ⟨b,0,none⟩)∧IntP q.num (.pointer (some ⟨b,0,none⟩)) w A∧(IntP (q.den:Int) (.pointer (some ⟨b,2,none⟩)) w A∨q=0∧IntP 0 (.pointer (some ⟨b,2,none⟩)) w A)
theorem RatP.keeps(q:Rat):(RatP q).Keeps:=by
 intro v w w' A A' hs hk ⟨b,h1,h2,h3⟩
 exact⟨b,h1,IntP.keeps _ _ _ _ _ _ hs hk h2,h3.imp (IntP.keeps _ _ _ _ _ _ hs hk) (fun h=>⟨h.1,IntP.keeps _ _ _ _ _ _ hs hk h.2⟩)⟩
theorem IntP.below{z:Int}{v:Value}{w w':World}{A:Nat→Prop}(hb:Below w.heap.size w w')(h:IntP z v w A):IntP z v w' A:=Fact.Keeps.below (IntP.keeps z) hb h
theorem RatP.below{q:Rat}{v:Value}{w w':World}{A:Nat→Prop}(hb:Below w.heap.size w w')(h:RatP q v w A):RatP q v w' A:=Fact.Keeps.below (RatP.keeps q) hb h
theorem IntP.noA{z:Int}{v:Value}{w:World}{A:Nat→Prop}(h:IntP z v w A):IntP z v w NoA:=Fact.Keeps.noA (IntP.keeps z) h
theorem RatP.noA{q:Rat}{v:Value}{w:World}{A:Nat→Prop}(h:RatP q v w A):RatP q v w NoA:=Fact.Keeps.noA (RatP.keeps q) h
theorem IntP.drewN{z:Int}{v:Value}{w:World}{A:Nat→Prop}(h:IntP z v w A)(n:Nat):IntP z v (w.drewN n) A:=h
end Go.Proofs.YthklnbaddobieaaGreat
namespace Go.Proofs.YthklnbaddobieaaGreat
open Go.RowKit Tr
def set2(w:World)(m o:Nat)(b sl:Value):World:=(w.setCell ⟨m,o+1,none⟩ sl).setCell ⟨m,o,none⟩ b
theorem set2_heap{w:World}{m o:Nat}{C:Array Value}{T:TypeId}(hm:w.heap[m]?=some (.cells C T (0,0)))(b sl:Value):(set2 w m o b sl).heap[m]?=some (.cells ((C.setIfInBounds (o+1) sl).setIfInBounds o b) T (0,0)):=by
 unfold set2
 simp only[World.setCell,Array.getElem?_modify,if_true,hm,Option.map_some]
 rfl
theorem set2_mod(w:World)(m o:Nat)(b sl:Value):Mod m w (set2 w m o b sl):=((Mod.refl m w).setCell _ _).setCell _ _
theorem WSl.mod{w w':World}{m:Nat}{v:Value}{l:List Nat}(h:WSl w v l)(hm:Mod m w w'){z:Obj}(hz:w.heap[m]?=some z)(hn:NoW z):WSl w' v l:=by
 obtain⟨p,cap,h1,h2,h3⟩:=h
 refine⟨p,cap,h1,h2,fun hne=>?_⟩
 obtain⟨b,off,h4,h5,h6⟩:=h3 hne
 have hbm:b≠m:=fun e=>by
  subst e
  exact cell_noW hz hn () _ (h6 0 (List.length_pos_iff.2 hne))
 exact⟨b,off,h4,Nat.lt_of_lt_of_le h5 hm.size,fun j hj=>(World.cell?_of_block (w:=w) (hm.block b h5 hbm)).trans (h6 j hj)⟩
theorem is_any(m o:Nat)(C:Array Value)(T:TypeId)(neg:Bool)(l:List Nat)(v:Value)(w:World)(hm:w.heap[m]?=some (.cells C T (0,0)))(ho:o+1<C.size)(hC:NoW (.cells C T (0,0)))(ol:WOk l)(hl:WSl w v l)(hn:l.length<1099511627776) :
  Calls Tryz.prog 150 #[.pointer (some ⟨m,o,none⟩),.bool neg,v] w fun e w'=>∃ sl,e=.returned (.pointer (some ⟨m,o,none⟩))∧WSl w' sl (words (wv l))∧w'=set2 w m o (.bool (neg && decide (wv l≠0))) sl:=by
 have hcut:=cut_any l v w ol hl hn
 have HN:=Lib.hid hn
 obtain⟨x,hx⟩:∃ x,w.cell? ⟨m,o,none⟩=some x:=by unfold World.cell?; simp[hm]; exact⟨_,Array.getElem?_eq_getElem (by omega)⟩
 obtain⟨y,hy⟩:∃ y,w.cell? ⟨m,o+1,none⟩=some y:=by unfold World.cell?; simp[hm]; exact⟨_,Array.getElem?_eq_getElem ho⟩
 have fx:w.frozen? ⟨m,o,none⟩=false:=by unfold World.frozen?; simp[hm]
 have fy:w.frozen? ⟨m,o+1,none⟩=false:=by unfold World.frozen?; simp[hm]
 have HM:=Lib.hid (And.intro hm hC)
 have HC:=Lib.hid hcut
 clear hm hC hcut hl hn ol
 by_cases hneg:neg=true
 ·subst hneg
  by_cases hz:wv l=0
  ·have e:(true && decide (wv l≠0))=false:=by simp[hz]
   have HE:=Lib.hid e
   have HZ:=Lib.hid hz
   clear e hz
   go_enter Tryz.func150,Tryz.ntmps150
   go_wp2_with (go_at_call 201; refine HC.out.mono ?_; rintro e w' ⟨sl,rfl,hsl,rfl⟩; have hk:=hsl; rw[HZ.out,words_zero] at hk; obtain⟨p,cap,rfl,_,_⟩:=hk)
   go_ret
   refine⟨.slice p 0 cap,rfl,?_,?_⟩
   ·exact WSl.mod hsl (set2_mod _ _ _ _ _) HM.out.1 HM.out.2
   ·rw[HE.out]; rfl
  ·have e:(true && decide (wv l≠0))=true:=by simp[hz]
   have hpos:0<(words (wv l)).length:=List.length_pos_iff.2 (fun h=>hz (words_eq_nil.1 h))
   have HE:=Lib.hid e
   clear e hz
   go_enter Tryz.func150,Tryz.ntmps150
   go_wp2_with (go_at_call 201; refine HC.out.mono ?_; rintro e w' ⟨sl,rfl,hsl,rfl⟩; have hk:=hsl; obtain⟨p,cap,rfl,_,_⟩:=hk)
   go_ret
   refine⟨.slice p (words (wv l)).length cap,rfl,?_,?_⟩
   ·exact WSl.mod hsl (set2_mod _ _ _ _ _) HM.out.1 HM.out.2
   ·rw[HE.out]; rfl
 ·obtain rfl:neg=false:=by simpa using hneg
  go_enter Tryz.func150,Tryz.ntmps150
  go_wp2_with (go_at_call 201; refine HC.out.mono ?_; rintro e w' ⟨sl,rfl,hsl,rfl⟩; have hk:=hsl; obtain⟨p,cap,rfl,_,_⟩:=hk)
  go_ret
  refine⟨.slice p (words (wv l)).length cap,rfl,?_,?_⟩
  ·exact WSl.mod hsl (set2_mod _ _ _ _ _) HM.out.1 HM.out.2
  ·rfl
def Put(m o:Nat)(C:Array Value)(T:TypeId)(z:Int)(w w':World):Prop:=Mod m w w'∧∃ sl,w'.heap[m]?=some (.cells ((C.setIfInBounds (o+1) sl).setIfInBounds o (.bool (decide (z<0)))) T (0,0))∧WSl w' sl (words z.natAbs)
theorem Put.below{m o:Nat}{C:Array Value}{T:TypeId}{z:Int}{w w1 w':World}(h:Put m o C T z w1 w')(hb:Below w.heap.size w w1):Put m o C T z w w':=⟨(Mod.of_below hb).trans h.1,h.2⟩
theorem is_put(m o:Nat)(C:Array Value)(T:TypeId)(neg:Bool)(l:List Nat)(v:Value)(w:World)(z:Int)(hm:w.heap[m]?=some (.cells C T (0,0)))(ho:o+1<C.size)(hC:NoW (.cells C T (0,0)))(ol:WOk l)(hl:WSl w v l)(hn:l.length<1099511627776)(hz:z.natAbs=wv l)(hs:decide (z<0)=(neg && decide (wv l≠0))) :
  Calls Tryz.prog 150 #[.pointer (some ⟨m,o,none⟩),.bool neg,v] w fun e w'=>e=.returned (.pointer (some ⟨m,o,none⟩))∧Put m o C T z w w':=by
 refine(is_any m o C T neg l v w hm ho hC ol hl hn).mono ?_
 rintro e w' ⟨sl,rfl,h1,rfl⟩
 refine⟨rfl,set2_mod _ _ _ _ _,sl,?_,by rw[hz]; exact h1⟩
 rw[set2_heap hm,hs]
theorem words_two{n:Nat}(_:n<18446744073709551616):wv [n % 4294967296,n / 4294967296]=n:=by simp[wv]; omega
theorem of_any(n:Nat)(hn:n<18446744073709551616)(w:World) :
  Calls Tryz.prog 205 #[.int .u64 n] w fun e w'=>∃ v,e=.returned v∧WSl w' v (words n)∧Below w.heap.size w w':=by
 have e1:((n:Int)) % 4294967296=((n % 4294967296:Nat):Int):=by omega
 have e2:(n:Int) / 4294967296=((n / 4294967296:Nat):Int):=by omega
 have hlt:n / 4294967296<4294967296:=by omega
 have hcut:=fun(w:World)=>cut_any [n % 4294967296,n / 4294967296] _ _ (by rw[wok_cons,wok_cons]; exact⟨Nat.mod_lt _ (by decide),hlt,wok_nil⟩) ((Blk.new w [n % 4294967296,n / 4294967296]).wsl (k:=2) (cap:=2) (by simp) (by omega)) (by simp)
 rw[words_two hn] at hcut
 have HC:=Lib.hid hcut
 have HE:=Lib.hid (And.intro e1 e2)
 have b1:(n:Int) / 4294967296<4294967296:=by omega
 clear e1 e2 hcut
 go_enter Tryz.func205,Tryz.ntmps205
 go_wp2_with (go_at_call 201; rw[HE.out.1,HE.out.2]; refine(HC.out _).mono ?_; rintro e w' ⟨v,rfl,hv,rfl⟩)
 go_ret
 exact⟨v,rfl,hv,br.alloc (Nat.le_refl _) _⟩
theorem setInt64_any (m o : Nat) (C : Array Value) (T : TypeId) (n : Int) (h0 : -9223372036854775808 ≤ n) (h1 : n < 9223372036854775808) (w : World) (hm : w.heap[m]? = some (.cells C T (0,0))) (ho : o + 1 < C.size) (hC : NoW (.cells C T (0,0))) :
    Calls Tryz.prog 157 #[.pointer (some ⟨m,o,none⟩),.int .i64 n] w fun e w'=>e=.returned (.pointer (some ⟨m,o,none⟩))∧Put m o C T n w w':=by
  have hof:=fun w=>of_any n.natAbs (by omega) w
  have hmlt:m<w.heap.size:=(Array.getElem?_eq_some_iff.1 hm).1
  have his:=fun(neg:Bool) (hs:decide (n<0)=(neg && decide (n.natAbs≠0))) (w1:World) (hb:Below w.heap.size w w1) v (hv:WSl w1 v (words n.natAbs))=>is_put m o C T neg (words n.natAbs) v w1 n ((hb.block m hmlt).trans hm) ho hC (wok_words _) hv (Nat.lt_of_le_of_lt (words_length_le (k:=2) (by omega)) (by decide)) (wv_words _).symm (by rw[wv_words]; exact hs)
  have HI:=Lib.hid his
  have HO:=Lib.hid hof
  clear his hof hm hC
  by_cases hneg:n<0
  · have e1:IntKind.u64.wrap n=n+18446744073709551616:=by rw[IntKind.wrap_u64]; omega
    have e2:IntKind.u64.wrap (-(n+18446744073709551616))=(n.natAbs:Int):=by rw[IntKind.wrap_u64]; omega
    have hs : Hid (decide (n < 0) = (true && decide (n.natAbs ≠ 0))) := Lib.hid (by have : n.natAbs ≠ 0 := by omega
                                                                                    simp[hneg,this])
    go_enter Tryz.func157,Tryz.ntmps157
    go_wp2_with (first
      | (go_at_call 205; refine(HO.out _).mono ?_; rintro e w' ⟨v,rfl,hv,hb⟩)
      | (go_at_call 150; refine(HI.out true hs.out _ hb v hv).mono ?_; rintro e w' ⟨rfl,hp⟩))
    go_ret
    exact⟨rfl,hp.below hb⟩
  · have e1:IntKind.u64.wrap n=(n.natAbs:Int):=by rw[IntKind.wrap_u64]; omega
    have hs:Hid (decide (n<0)=(false && decide (n.natAbs≠0))):=Lib.hid (by simp[hneg])
    go_enter Tryz.func157,Tryz.ntmps157
    go_wp2_with (first
      | (go_at_call 205; refine(HO.out _).mono ?_; rintro e w' ⟨v,rfl,hv,hb⟩)
      | (go_at_call 150; refine(HI.out false hs.out _ hb v hv).mono ?_; rintro e w' ⟨rfl,hp⟩))
    go_ret
    exact⟨rfl,hp.below hb⟩
end Go.Proofs.YthklnbaddobieaaGreat
namespace Go.Proofs.YthklnbaddobieaaGreat
open Go.RowKit Tr
theorem wsl_of_owns{w:World}{B m:Nat}{v:Value}{l:List Nat}(h:w.ownsRow B 192 1 v m (l.map fun x:Nat=>Value.int .u32 (x:Int))):WSl w v l:=by
 have h0:l.length=m:=by have:=h.1; simpa using this
 obtain⟨h1,h2|⟨g,cap',cur,h2,h3,h4,h5,h6,h7,h8⟩⟩:=h
 ·obtain⟨rfl,h3⟩:=h2
  have:l=[]:=List.eq_nil_of_length_eq_zero (by rw[h0]; simpa using h3)
  subst this
  exact WSl.nil w
 ·subst h2
  refine⟨some ⟨g,0,none⟩,cap',by rw[h0],by omega,fun _=>⟨g,0,rfl,(Array.getElem?_eq_some_iff.1 h4).1,fun j hj=>?_⟩⟩
  have h9:(cur.toList.take (m*1))[j]?=some (.int .u32 (l[j]?.getD 0:Nat)):=by rw[h8]; simp[hj]
  rw[List.getElem?_take_of_lt (by omega)] at h9
  simp at h9
  simp[World.cell?,h4,h9]
theorem run_append_words(v:Value)(l:List Nat)(w:World)(h:WSl w v l)(hn:l.length<1099511627776) :
  ∃ v' w',(Builtin.append_ #[129,129] 129 #[.slice none 0 0,v]).run Tryz.prog w=.ok v' w'∧WSl w' v' l∧Below w.heap.size w w':=by
 obtain⟨p,cap,rfl,hc,hrow⟩:=h
 obtain⟨i0,hi,hz0,hz1,hz2⟩:=info_parts info_u32
 have hown:w.ownsRow w.heap.size 192 1 (.slice none 0 0) 0 []:=⟨by simp,.inl ⟨rfl,rfl⟩⟩
 rcases p with _|ad
 ·have hl:l=[]:=by
   rcases l with _|⟨x,l⟩
   ·rfl
   ·obtain⟨b,off,h,_⟩:=hrow (by simp); cases h
  subst hl
  refine⟨.slice none 0 0,w,?_,WSl.nil w,Below.refl _ _⟩
  simp[Builtin.append_,run_underlying (Tryz.underlying129),sizeOf,typeInfo,hi,Builtin.lenOf,Builtin.firstCells]
 ·have hcells:∀ j u,(l.map fun x:Nat=>Value.int .u32 (x:Int))[j]?=some u→w.cell? (ad.add j)=some u:=by
   intro j u hu
   rw[List.getElem?_map] at hu
   obtain⟨y,hy,rfl⟩:=Option.map_eq_some_iff.1 hu
   have hlt:=(List.getElem?_eq_some_iff.1 hy).1
   obtain⟨b,off,h1,h2,h3⟩:=hrow (by intro h; rw[h] at hlt; simp at hlt)
   cases h1
   have:=h3 j hlt
   rw[hy] at this
   rw[Addr.add_lit]; simpa using this
  have h1:∀ u∈(l.map fun x:Nat=>Value.int .u32 (x:Int)),u.oneCell'=true:=by intro u hu; obtain⟨y,_,rfl⟩:=List.mem_map.1 hu; rfl
  obtain⟨v',w',hrun,h2,h3,_,h5⟩:=run_append_own_at (P:=Tryz.prog) w w.heap.size 129 129 192 i0 _ 1 4 Tryz.underlying129 hi hz0 hz1 hz2 rfl (by decide) (.slice none 0 0) 0 [] hown ad l.length cap _ (by simp) hcells h1 (by unfold maxLen; omega) (by omega) (Nat.le_refl _)
  refine⟨v',w',hrun,?_,?_⟩
  ·rw[Nat.zero_add,List.nil_append] at h2
   exact wsl_of_owns h2
  ·exact br.grown h3 (Nat.le_refl _) (fun k e=>by simp[Value.ownBlock] at e)
theorem wp_append_words{o:Oper}{a:Act}{w:World}{K:Act→World→Prop}{Q:Exit→Act→World→Prop}(s x:Operand)
  (ho:o.op=.call { callee:=.builtin .append,args:=#[s,x],argTypes:=#[129,129] }) (hty:o.type=129) (v:Value) (l:List Nat) (hs:a.eval s=.slice none 0 0) (hx:a.eval x=v) (h:WSl w v l) (hn:l.length<1099511627776)
  (hK:∀ v' w',WSl w' v' l→Below w.heap.size w w'→K (a.put o.dst v') w'):o.wp Tryz.prog a w K Q:=by
 obtain⟨v',w',hrun,h2,h3⟩:=run_append_words v l w h hn
 unfold Oper.wp execOp
 simp only[ho,hty,resolve,invoke,builtin,Sem.run_bind,Sem.run_pure,Result.andThen_ok,List.map_toArray,List.map_cons,List.map_nil,hs,hx,hrun]
 exact hK v' w' h2 h3
theorem ct{w w1:World}(h1:Below w.drew.heap.size w.drew w1){b o:Nat}{v:Value}(hb:b<w.heap.size)(hc:w.cell? ⟨b,o,none⟩=some v):w1.cell? ⟨b,o,none⟩=some v:=(h1.cell (p:=⟨b,o,none⟩) hb).trans hc
theorem keeps_wsla(l:List Nat):Fact.Keeps (fun v w A=>WSlA A w v l):=fun _ _ _ _ _ hs hk h=>h.keep hs hk
theorem set_any(m o:Nat)(C:Array Value)(T:TypeId)(z:Int)(v:Value)(A:Nat→Prop)(w:World)(hm:w.heap[m]?=some (.cells C T (0,0)))(ho:o+1<C.size)(hC:NoW (.cells C T (0,0)))(hx:IntP z v w A)(hn:(words z.natAbs).length<274877906944) :
  Calls Tryz.prog 149 #[.pointer (some ⟨m,o,none⟩),v] w fun e w'=>e=.returned (.pointer (some ⟨m,o,none⟩))∧Put m o C T z w w':=by
 obtain⟨b,bo,sl,rfl,hb,_,c0,c1,hsl⟩:=hx
 have hw:=hsl.wsl
 have hmlt:m<w.heap.size:=(Array.getElem?_eq_some_iff.1 hm).1
 go_enter Tryz.func149,Tryz.ntmps149
 go_wp2_with fail
 refine wp_region_inv [(.lit,[]),(.lit,[]),(.lit,[]),(.lit,[]),(.lit,[]),(.lit,[]),(.lit,[]),(.lit,[]),(.lit,[]),(.val,[])] (pickF [(9,fun v w A=>WSlA A w v (words z.natAbs))]) (by kernel_rfl) ?_ ?_ (by simp) (by simp) (by kernel_rfl)
 ·exact keeps_pick (by simp[keeps_wsla])
 ·refine⟨_,fun f w1 h1=>by go_simp; rfl,?_⟩
  refine⟨_,fun f w1 h1=>by go_simp; rfl,?_⟩
  refine⟨_,fun f w1 h1=>by go_simp; rfl,?_⟩
  refine⟨_,fun f w1 h1=>by go_simp; rfl,?_⟩
  refine⟨_,fun f w1 h1=>by have:=ct h1 hb c0; go_simp; rfl,?_⟩
  refine⟨_,fun f w1 h1=>by go_simp; rfl,?_⟩
  refine⟨_,fun f w1 h1=>by go_simp; rfl,?_⟩
  refine⟨_,fun f w1 h1=>by go_simp; rfl,?_⟩
  refine⟨_,fun f w1 h1=>by have:=ct h1 hb c1; go_simp; rfl,?_⟩
  simp only[Act.put,nrA,nrB,nrC,Nat.reduceAdd]
  refine⟨fun f w1 A1 h1 hA hN hd K hK=>?_,?_⟩
  ·refine wp_append_words _ _ rfl rfl _ _ rfl rfl (hw.below h1) (by omega) ?_
   intro v' w' hv hb'
   exact hK v' w' hb' (hv.avoids (hA.below hb'))
  ·intro f w1 h1 hF
   have hv:WSlA NoA w1 (f 9) (words z.natAbs):=hF.2
   have hv:=hv.wsl
   clear hF
   simp only[Act.put,nrA,nrB,nrC]
   generalize f 9=v9 at *
   have h1':Below w.heap.size w w1:=br.drew.trans h1
   have his:=is_put m o C T (decide (z<0)) (words z.natAbs) v9 w1 z ((h1.block m hmlt).trans hm) ho hC (wok_words _) hv (by omega) (wv_words _).symm (by rw[wv_words]; by_cases h:z<0<;>simp[h]; omega)
   have HI:=Lib.hid his
   clear his hm hC c0 c1
   go_wp2_with (go_at_call 150; refine HI.out.mono ?_; rintro e w' ⟨rfl,hp⟩)
   go_ret
   exact⟨rfl,hp.below h1'⟩
end Go.Proofs.YthklnbaddobieaaGreat
namespace Go.Proofs.YthklnbaddobieaaGreat
open Go.RowKit Tr
def WordsF(n k:Nat):Fact:=fun v w A=>∃ l,WOk l∧wv l=n∧l.length≤k∧WSlA A w v l
theorem WordsF.keeps(n k:Nat):(WordsF n k).Keeps:=by
 intro v w w' A A' hs hk ⟨l,h1,h2,h3,h4⟩
 exact⟨l,h1,h2,h3,h4.keep hs hk⟩
theorem Blk.all{w:World}{B:Nat}{l:List Nat}(h:Blk w B l):WSl w (.slice (some ⟨B,0,none⟩) l.length l.length) l:=by
 have:=h.wsl (k:=l.length) (cap:=l.length) (Nat.le_refl _) (Nat.le_refl _)
 rwa[List.take_length] at this
theorem sign_mul(x y:Int)(n:Nat)(hn:n=x.natAbs*y.natAbs):decide (x*y<0)=((decide (x<0) != decide (y<0)) && decide (n≠0)):=by
 subst hn
 rcases Int.lt_trichotomy x 0 with hx|hx|hx<;>rcases Int.lt_trichotomy y 0 with hy|hy|hy
 ·have:0<x*y:=Int.mul_pos_of_neg_of_neg hx hy
  have h2:¬x*y<0:=by omega
  simp[hx,hy,h2]
 ·subst hy; simp
 ·have:x*y<0:=Int.mul_neg_of_neg_of_pos hx hy
  have h3:¬y<0:=by omega
  have h6:x.natAbs*y.natAbs≠0:=Nat.mul_ne_zero (by omega) (by omega)
  rw[decide_eq_true hx,decide_eq_false h3,decide_eq_true this,decide_eq_true h6]; rfl
 ·subst hx; simp
 ·subst hx; simp
 ·subst hx; simp
 ·have:x*y<0:=Int.mul_neg_of_pos_of_neg hx hy
  have h3:¬x<0:=by omega
  have h6:x.natAbs*y.natAbs≠0:=Nat.mul_ne_zero (by omega) (by omega)
  rw[decide_eq_false h3,decide_eq_true hy,decide_eq_true this,decide_eq_true h6]; rfl
 ·subst hy; simp
 ·have:0<x*y:=Int.mul_pos hx hy
  have h2:¬x*y<0:=by omega
  have h3:¬x<0:=by omega
  have h4:¬y<0:=by omega
  simp[h2,h3,h4]
theorem mul_any(m o:Nat)(C:Array Value)(T:TypeId)(x y:Int)(vx vy:Value)(A:Nat→Prop)(w:World)(hm:w.heap[m]?=some (.cells C T (0,0)))(ho:o+1<C.size)(hC:NoW (.cells C T (0,0)))(hx:IntP x vx w A)(hy:IntP y vy w A)(hnx:(words x.natAbs).length<274877906944)(hny:(words y.natAbs).length<274877906944) :
  Calls Tryz.prog 100 #[.pointer (some ⟨m,o,none⟩),vx,vy] w fun e w'=>e=.returned (.pointer (some ⟨m,o,none⟩))∧Put m o C T (x*y) w w':=by
 obtain⟨b,bo,sl,rfl,hb,_,c0,c1,hsl⟩:=hx
 obtain⟨b2,bo2,sl2,rfl,hb2,_,d0,d1,hsl2⟩:=hy
 have hw:=hsl.wsl
 have hw2:=hsl2.wsl
 have hmlt:m<w.heap.size:=(Array.getElem?_eq_some_iff.1 hm).1
 go_enter Tryz.func100,Tryz.ntmps100
 go_wp2_with fail
 refine wp_region_inv [(.lit,[]),(.lit,[]),(.lit,[]),(.lit,[]),(.lit,[]),(.lit,[]),(.lit,[]),(.lit,[]),(.lit,[]),(.lit,[]),(.lit,[]),(.lit,[]),(.lit,[]),(.lit,[]),(.lit,[]),(.lit,[]),(.lit,[]),(.lit,[]),(.val,[])]
  (pickF [(18,WordsF (x.natAbs*y.natAbs) 549755813888)]) (by kernel_rfl) ?_ ?_ (by simp) (by simp) (by kernel_rfl)
 ·exact keeps_pick (by simp[WordsF.keeps])
 ·repeat (refine⟨_,fun f w1 h1=>by(have e1:=ct h1 hb c0; have e2:=ct h1 hb c1; have e3:=ct h1 hb2 d0; have e4:=ct h1 hb2 d1; go_simp; rfl),?_⟩)
  simp only[Act.put,nrA,nrB,nrC,Nat.reduceAdd]
  refine⟨fun f w1 A1 h1 hA hN hd K hK=>?_,?_⟩
  ·go_simp
   refine(product_any _ _ _ _ _ (wok_words x.natAbs) (wok_words y.natAbs) (hw.below h1) (hw2.below h1) (by omega) (by omega)).mono ?_
   rintro e w' ⟨out,h2,h3,h4,rfl,h5,h6⟩
   rw[wv_words,wv_words] at h4
   exact hK _ w' h6 ⟨out,h3,h4,by omega,h5.all.avoids (hA.below h6)⟩
  ·intro f w1 h1 hF
   obtain⟨l,ol,hl,hll,hv⟩:WordsF (x.natAbs*y.natAbs) 549755813888 (f 18) w1 NoA:=hF.2
   have hv:=hv.wsl
   clear hF
   simp only[Act.put,nrA,nrB,nrC]
   generalize f 18=v9 at *
   have h1':Below w.heap.size w w1:=br.drew.trans h1
   have his:=is_put m o C T _ l v9 w1 (x*y) ((h1.block m hmlt).trans hm) ho hC ol hv (by omega) (by rw[hl,Int.natAbs_mul]) (sign_mul x y _ hl)
   have HI:=Lib.hid his
   clear his hm hC c0 c1 d0 d1
   go_wp2_with (go_at_call 150; refine HI.out.mono ?_; rintro e w' ⟨rfl,hp⟩)
   go_ret
   exact⟨rfl,hp.below h1'⟩
def sgn(neg:Bool)(n:Nat):Int:=if neg then -(n:Int) else n
theorem natAbs_sgn(neg:Bool)(n:Nat):(sgn neg n).natAbs=n:=by unfold sgn; cases neg<;>simp
theorem sgn_self(x:Int):sgn (decide (x<0)) x.natAbs=x:=by
 unfold sgn
 by_cases h:x<0
 ·simp[h]; omega
 ·simp[h]; omega
theorem sgn_neg(neg:Bool)(n:Nat):decide (sgn neg n<0)=(neg && decide (n≠0)):=by
 unfold sgn
 cases neg
 ·simp
 ·by_cases h:n=0
  ·simp[h]
  ·simp[h]; omega
theorem add_like(m o:Nat)(C:Array Value)(T:TypeId)(x y:Int)(neg:Bool)(hneg:decide (x<0)=neg)(vx vy:Value)(A:Nat→Prop)(w:World)(hm:w.heap[m]?=some (.cells C T (0,0)))(ho:o+1<C.size)(hC:NoW (.cells C T (0,0)))(hx:IntP x vx w A)(hy:IntP y vy w A)(hnx:(words x.natAbs).length<274877906944)(hny:(words y.natAbs).length<274877906944) :
  Calls Tryz.prog 156 #[.pointer (some ⟨m,o,none⟩),vx,vy,.bool neg] w fun e w'=>e=.returned (.pointer (some ⟨m,o,none⟩))∧Put m o C T (x+sgn neg y.natAbs) w w':=by
 obtain⟨b,bo,sl,rfl,hb,_,c0,c1,hsl⟩:=hx
 obtain⟨b2,bo2,sl2,rfl,hb2,_,d0,d1,hsl2⟩:=hy
 have hw:=hsl.wsl
 have hw2:=hsl2.wsl
 have hmlt:m<w.heap.size:=(Array.getElem?_eq_some_iff.1 hm).1
 have hz:Hid (x+sgn neg y.natAbs=sgn neg (x.natAbs+y.natAbs)):=Lib.hid (by
  unfold sgn; cases neg<;>simp at hneg<;>simp<;>omega)
 rw[hneg] at c0
 have hnn:(neg == neg)=true:=by simp
 have HX:=Lib.hid hneg
 clear hneg
 go_enter Tryz.func156,Tryz.ntmps156
 go_wp2_with fail
 refine wp_region_inv [(.lit,[]),(.lit,[]),(.lit,[]),(.lit,[]),(.lit,[]),(.lit,[]),(.lit,[]),(.lit,[]),(.lit,[]),(.lit,[]),(.val,[])]
  (pickF [(10,WordsF (x.natAbs+y.natAbs) 549755813888)]) (by kernel_rfl) ?_ ?_ (by simp) (by simp) (by kernel_rfl)
 ·exact keeps_pick (by simp[WordsF.keeps])
 ·repeat (refine⟨_,fun f w1 h1=>by(have e2:=ct h1 hb c1; have e4:=ct h1 hb2 d1; go_simp; rfl),?_⟩)
  simp only[Act.put,nrA,nrB,nrC,Nat.reduceAdd]
  refine⟨fun f w1 A1 h1 hA hN hd K hK=>?_,?_⟩
  ·go_simp
   refine(more_any _ _ _ _ _ (wok_words x.natAbs) (wok_words y.natAbs) (hw.below h1) (hw2.below h1) (by omega) (by omega)).mono ?_
   rintro e w' ⟨out,h2,h3,h4,rfl,h5,h6⟩
   rw[wv_words,wv_words] at h4
   exact hK _ w' h6 ⟨out,h3,h4,by omega,h5.all.avoids (hA.below h6)⟩
  ·intro f w1 h1 hF
   obtain⟨l,ol,hl,hll,hv⟩:WordsF (x.natAbs+y.natAbs) 549755813888 (f 10) w1 NoA:=hF.2
   have hv:=hv.wsl
   clear hF
   simp only[Act.put,nrA,nrB,nrC]
   generalize f 10=v9 at *
   have h1':Below w.heap.size w w1:=br.drew.trans h1
   have his:=is_put m o C T neg l v9 w1 (x+sgn neg y.natAbs) ((h1.block m hmlt).trans hm) ho hC ol hv (by omega) (by rw[hl,hz.out,natAbs_sgn]) (by rw[hl,hz.out,sgn_neg])
   have HI:=Lib.hid his
   clear his hm hC c0 c1 d0 d1
   go_wp2_with (go_at_call 150; refine HI.out.mono ?_; rintro e w' ⟨rfl,hp⟩)
   go_ret
   exact⟨rfl,hp.below h1'⟩
theorem add_more(m o:Nat)(C:Array Value)(T:TypeId)(x y:Int)(neg:Bool)(hneg:decide (x<0)=!neg)(hle:y.natAbs≤x.natAbs)(vx vy:Value)(A:Nat→Prop)(w:World)(hm:w.heap[m]?=some (.cells C T (0,0)))(ho:o+1<C.size)(hC:NoW (.cells C T (0,0)))(hx:IntP x vx w A)(hy:IntP y vy w A)(hnx:(words x.natAbs).length<274877906944) :
  Calls Tryz.prog 156 #[.pointer (some ⟨m,o,none⟩),vx,vy,.bool neg] w fun e w'=>e=.returned (.pointer (some ⟨m,o,none⟩))∧Put m o C T (x+sgn neg y.natAbs) w w':=by
 obtain⟨b,bo,sl,rfl,hb,_,c0,c1,hsl⟩:=hx
 obtain⟨b2,bo2,sl2,rfl,hb2,_,d0,d1,hsl2⟩:=hy
 have hw:=hsl.wsl
 have hw2:=hsl2.wsl
 have hmlt:m<w.heap.size:=(Array.getElem?_eq_some_iff.1 hm).1
 have hz:Hid (x+sgn neg y.natAbs=sgn (!neg) (x.natAbs - y.natAbs)):=Lib.hid (by
  unfold sgn; cases neg<;>simp at hneg<;>simp<;>omega)
 have hll2:(words y.natAbs).length≤(words x.natAbs).length:=by
  rcases Nat.lt_or_ge (words x.natAbs).length (words y.natAbs).length with h|h
  ·have:=cmp_shorter h; omega
  ·exact h
 rw[hneg] at c0
 have hnn:((!neg) == neg)=false:=by cases neg<;>rfl
 have hcz:(cmpZ x.natAbs y.natAbs)≥0:=by have:=cmp_ge hle; omega
 have HX:=Lib.hid (And.intro hneg (And.intro hle hll2))
 obtain⟨cz,hcze⟩:∃ cz,cz=cmpZ x.natAbs y.natAbs:=⟨_,rfl⟩
 rw[←hcze] at hcz
 have HU:=fun(w:World) h1 h2=>under_any x.natAbs y.natAbs sl sl2 w h1 h2 (by omega)
 rw[←hcze] at HU
 clear hneg hle hcze hll2
 go_enter Tryz.func156,Tryz.ntmps156
 go_wp2_with fail
 refine wp_region_inv [(.lit,[]),(.lit,[]),(.lit,[]),(.lit,[]),(.lit,[]),(.lit,[]),(.lit,[]),(.lit,[]),(.val,[])]
  (pickF [(8,fun v _ _=>v=.int .i64 cz)]) (by kernel_rfl) ?_ ?_ (by simp) (by simp) (by kernel_rfl)
 ·exact keeps_pick (by simp[keeps_pure])
 ·repeat (refine⟨_,fun f w1 h1=>by(have e2:=ct h1 hb c1; have e4:=ct h1 hb2 d1; go_simp; rfl),?_⟩)
  simp only[Act.put,nrA,nrB,nrC,Nat.reduceAdd]
  refine⟨fun f w1 A1 h1 hA hN hd K hK=>?_,?_⟩
  ·go_simp
   refine(HU _ (hw.below h1) (hw2.below h1)).mono ?_
   rintro e w' ⟨rfl,d,rfl⟩
   exact hK _ _ (below_drewN br d) rfl
  ·intro f w1 h1 hF
   have hv:f 8=.int .i64 cz:=hF.2
   clear hF
   simp only[Act.put,nrA,nrB,nrC,hv]
   clear hv
   have h1':Below w.heap.size w w1:=br.drew.trans h1
   have c0':=ct h1 hb c0
   have c1':=ct h1 hb c1
   have d1':=ct h1 hb2 d1
   have hw':=hw.below h1
   have hw2':=hw2.below h1
   have hb':b<w1.heap.size:=Nat.lt_of_lt_of_le hb h1'.size
   have hb2':b2<w1.heap.size:=Nat.lt_of_lt_of_le hb2 h1'.size
   have hm':=(h1.block m hmlt).trans hm
   have HS:=Lib.hid (And.intro h1' (And.intro hm' hC))
   clear h1 h1' c0 c1 d0 d1 hw hw2 hb hb2 hm hm' hC
   go_wp2_with fail
   refine wp_region_inv [(.lit,[]),(.lit,[]),(.lit,[]),(.lit,[]),(.lit,[]),(.lit,[]),(.lit,[]),(.lit,[]),(.lit,[]),(.lit,[]),(.lit,[]),(.lit,[]),(.lit,[]),(.val,[])]
    (pickF [(13,WordsF (x.natAbs - y.natAbs) 549755813888)]) (by kernel_rfl) ?_ ?_ (by simp) (by simp) (by kernel_rfl)
   ·exact keeps_pick (by simp[WordsF.keeps])
   ·repeat (refine⟨_,fun f w1 h1=>by(have e1:=ct h1 hb' c0'; have e2:=ct h1 hb' c1'; have e4:=ct h1 hb2' d1'; go_simp; rfl),?_⟩)
    simp only[Act.put,nrA,nrB,nrC,Nat.reduceAdd]
    refine⟨fun f w1 A1 h1 hA hN hd K hK=>?_,?_⟩
    ·go_simp
     refine(less_any _ _ _ _ _ (wok_words x.natAbs) (wok_words y.natAbs) (by rw[wv_words,wv_words]; exact HX.out.2.1) HX.out.2.2 (hw'.below h1) (hw2'.below h1) (by omega)).mono ?_
     rintro e w' ⟨out,h2,h3,h4,rfl,h5,h6⟩
     rw[wv_words,wv_words] at h4
     exact hK _ w' h6 ⟨out,h3,h4,by omega,h5.all.avoids (hA.below h6)⟩
    ·intro f w2 h2 hF
     obtain⟨l,ol,hl,hll,hv⟩:WordsF (x.natAbs - y.natAbs) 549755813888 (f 13) w2 NoA:=hF.2
     have hv:=hv.wsl
     clear hF
     simp only[Act.put,nrA,nrB,nrC]
     generalize f 13=v9 at *
     have h2':Below w1.heap.size w1 w2:=br.drew.trans h2
     have his:=is_put m o C T (!neg) l v9 w2 (x+sgn neg y.natAbs) ((h2'.block m (Nat.lt_of_lt_of_le hmlt HS.out.1.size)).trans HS.out.2.1) ho HS.out.2.2 ol hv (by omega) (by rw[hl,hz.out,natAbs_sgn]) (by rw[hl,hz.out,sgn_neg])
     have HI:=Lib.hid his
     clear his c0' c1' d1'
     go_wp2_with (go_at_call 150; refine HI.out.mono ?_; rintro e w' ⟨rfl,hp⟩)
     go_ret
     exact⟨rfl,hp.below (HS.out.1.trans (h2'.mono HS.out.1.size))⟩
end Go.Proofs.YthklnbaddobieaaGreat
namespace Go.Proofs.YthklnbaddobieaaGreat
open Go.RowKit Tr
theorem add_under(m o:Nat)(C:Array Value)(T:TypeId)(x y:Int)(neg:Bool)(hneg:decide (x<0)=!neg)(hle:x.natAbs<y.natAbs)(vx vy:Value)(A:Nat→Prop)(w:World)(hm:w.heap[m]?=some (.cells C T (0,0)))(ho:o+1<C.size)(hC:NoW (.cells C T (0,0)))(hx:IntP x vx w A)(hy:IntP y vy w A)(hnx:(words x.natAbs).length<274877906944)(hny:(words y.natAbs).length<274877906944) :
  Calls Tryz.prog 156 #[.pointer (some ⟨m,o,none⟩),vx,vy,.bool neg] w fun e w'=>e=.returned (.pointer (some ⟨m,o,none⟩))∧Put m o C T (x+sgn neg y.natAbs) w w':=by
 obtain⟨b,bo,sl,rfl,hb,_,c0,c1,hsl⟩:=hx
 obtain⟨b2,bo2,sl2,rfl,hb2,_,d0,d1,hsl2⟩:=hy
 have hw:=hsl.wsl
 have hw2:=hsl2.wsl
 have hmlt:m<w.heap.size:=(Array.getElem?_eq_some_iff.1 hm).1
 have hz:Hid (x+sgn neg y.natAbs=sgn neg (y.natAbs - x.natAbs)):=Lib.hid (by
  unfold sgn; cases neg<;>simp at hneg<;>simp<;>omega)
 have hll2:(words x.natAbs).length≤(words y.natAbs).length:=by
  rcases Nat.lt_or_ge (words y.natAbs).length (words x.natAbs).length with h|h
  ·have:=cmp_shorter h; omega
  ·exact h
 rw[hneg] at c0
 have hnn:((!neg) == neg)=false:=by cases neg<;>rfl
 have hcz:(cmpZ x.natAbs y.natAbs)<0:=cmp_lt hle
 have HX:=Lib.hid (And.intro hneg (And.intro hle hll2))
 obtain⟨cz,hcze⟩:∃ cz,cz=cmpZ x.natAbs y.natAbs:=⟨_,rfl⟩
 rw[←hcze] at hcz
 have HU:=fun(w:World) h1 h2=>under_any x.natAbs y.natAbs sl sl2 w h1 h2 (by omega)
 rw[←hcze] at HU
 clear hneg hle hcze hll2
 go_enter Tryz.func156,Tryz.ntmps156
 go_wp2_with fail
 refine wp_region_inv [(.lit,[]),(.lit,[]),(.lit,[]),(.lit,[]),(.lit,[]),(.lit,[]),(.lit,[]),(.lit,[]),(.val,[])]
  (pickF [(8,fun v _ _=>v=.int .i64 cz)]) (by kernel_rfl) ?_ ?_ (by simp) (by simp) (by kernel_rfl)
 ·exact keeps_pick (by simp[keeps_pure])
 ·repeat (refine⟨_,fun f w1 h1=>by(have e2:=ct h1 hb c1; have e4:=ct h1 hb2 d1; go_simp; rfl),?_⟩)
  simp only[Act.put,nrA,nrB,nrC,Nat.reduceAdd]
  refine⟨fun f w1 A1 h1 hA hN hd K hK=>?_,?_⟩
  ·go_simp
   refine(HU _ (hw.below h1) (hw2.below h1)).mono ?_
   rintro e w' ⟨rfl,d,rfl⟩
   exact hK _ _ (below_drewN br d) rfl
  ·intro f w1 h1 hF
   have hv:f 8=.int .i64 cz:=hF.2
   clear hF
   simp only[Act.put,nrA,nrB,nrC,hv]
   clear hv
   have h1':Below w.heap.size w w1:=br.drew.trans h1
   have c0':=ct h1 hb c0
   have c1':=ct h1 hb c1
   have d1':=ct h1 hb2 d1
   have hw':=hw.below h1
   have hw2':=hw2.below h1
   have hb':b<w1.heap.size:=Nat.lt_of_lt_of_le hb h1'.size
   have hb2':b2<w1.heap.size:=Nat.lt_of_lt_of_le hb2 h1'.size
   have hm':=(h1.block m hmlt).trans hm
   have HS:=Lib.hid (And.intro h1' (And.intro hm' hC))
   clear h1 h1' c0 c1 d0 d1 hw hw2 hb hb2 hm hm' hC
   go_wp2_with fail
   refine wp_region_inv [(.lit,[]),(.lit,[]),(.lit,[]),(.lit,[]),(.lit,[]),(.lit,[]),(.lit,[]),(.lit,[]),(.lit,[]),(.lit,[]),(.val,[])]
    (pickF [(10,WordsF (y.natAbs - x.natAbs) 549755813888)]) (by kernel_rfl) ?_ ?_ (by simp) (by simp) (by kernel_rfl)
   ·exact keeps_pick (by simp[WordsF.keeps])
   ·repeat (refine⟨_,fun f w1 h1=>by(have e2:=ct h1 hb' c1'; have e4:=ct h1 hb2' d1'; go_simp; rfl),?_⟩)
    simp only[Act.put,nrA,nrB,nrC,Nat.reduceAdd]
    refine⟨fun f w1 A1 h1 hA hN hd K hK=>?_,?_⟩
    ·go_simp
     refine(less_any _ _ _ _ _ (wok_words y.natAbs) (wok_words x.natAbs) (by rw[wv_words,wv_words]; exact Nat.le_of_lt HX.out.2.1) HX.out.2.2 (hw2'.below h1) (hw'.below h1) (by omega)).mono ?_
     rintro e w' ⟨out,h2,h3,h4,rfl,h5,h6⟩
     rw[wv_words,wv_words] at h4
     exact hK _ w' h6 ⟨out,h3,h4,by omega,h5.all.avoids (hA.below h6)⟩
    ·intro f w2 h2 hF
     obtain⟨l,ol,hl,hll,hv⟩:WordsF (y.natAbs - x.natAbs) 549755813888 (f 10) w2 NoA:=hF.2
     have hv:=hv.wsl
     clear hF
     simp only[Act.put,nrA,nrB,nrC]
     generalize f 10=v9 at *
     have h2':Below w1.heap.size w1 w2:=br.drew.trans h2
     have his:=is_put m o C T neg l v9 w2 (x+sgn neg y.natAbs) ((h2'.block m (Nat.lt_of_lt_of_le hmlt HS.out.1.size)).trans HS.out.2.1) ho HS.out.2.2 ol hv (by omega) (by rw[hl,hz.out,natAbs_sgn]) (by rw[hl,hz.out,sgn_neg])
     have HI:=Lib.hid his
     clear his c0' c1' d1'
     go_wp2_with (go_at_call 150; refine HI.out.mono ?_; rintro e w' ⟨rfl,hp⟩)
     go_ret
     exact⟨rfl,hp.below (HS.out.1.trans (h2'.mono HS.out.1.size))⟩
theorem add_any(m o:Nat)(C:Array Value)(T:TypeId)(x y:Int)(neg:Bool)(vx vy:Value)(A:Nat→Prop)(w:World)(hm:w.heap[m]?=some (.cells C T (0,0)))(ho:o+1<C.size)(hC:NoW (.cells C T (0,0)))(hx:IntP x vx w A)(hy:IntP y vy w A)(hnx:(words x.natAbs).length<274877906944)(hny:(words y.natAbs).length<274877906944) :
  Calls Tryz.prog 156 #[.pointer (some ⟨m,o,none⟩),vx,vy,.bool neg] w fun e w'=>e=.returned (.pointer (some ⟨m,o,none⟩))∧Put m o C T (x+sgn neg y.natAbs) w w':=by
 by_cases h:decide (x<0)=neg
 ·exact add_like m o C T x y neg h vx vy A w hm ho hC hx hy hnx hny
 ·have h':decide (x<0)=!neg:=by cases neg<;>cases hd:decide (x<0)<;>simp[hd] at h ⊢
  rcases Nat.lt_or_ge x.natAbs y.natAbs with h2|h2
  ·exact add_under m o C T x y neg h' h2 vx vy A w hm ho hC hx hy hnx hny
  ·exact add_more m o C T x y neg h' h2 vx vy A w hm ho hC hx hy hnx
theorem Add_any(m o:Nat)(C:Array Value)(T:TypeId)(x y:Int)(vx vy:Value)(A:Nat→Prop)(w:World)(hm:w.heap[m]?=some (.cells C T (0,0)))(ho:o+1<C.size)(hC:NoW (.cells C T (0,0)))(hx:IntP x vx w A)(hy:IntP y vy w A)(hnx:(words x.natAbs).length<274877906944)(hny:(words y.natAbs).length<274877906944) :
  Calls Tryz.prog 94 #[.pointer (some ⟨m,o,none⟩),vx,vy] w fun e w'=>e=.returned (.pointer (some ⟨m,o,none⟩))∧Put m o C T (x+y) w w':=by
 have hc:=add_any m o C T x y (decide (y<0)) vx vy A w hm ho hC hx hy hnx hny
 rw[sgn_self] at hc
 have HC:=Lib.hid hc
 obtain⟨b2,bo2,sl2,rfl,hb2,_,d0,d1,hsl2⟩:=hy
 clear hc hm hC
 go_enter Tryz.func94,Tryz.ntmps94
 go_wp2_with (go_at_call 156; refine HC.out.mono ?_; rintro e w' ⟨rfl,hp⟩)
 go_ret
 exact⟨rfl,hp⟩
theorem sgn_not(y:Int):sgn (!decide (y<0)) y.natAbs=-y:=by
 unfold sgn
 by_cases h:y<0
 ·simp[h]; omega
 ·simp[h]; omega
theorem Sub_any(m o:Nat)(C:Array Value)(T:TypeId)(x y:Int)(vx vy:Value)(A:Nat→Prop)(w:World)(hm:w.heap[m]?=some (.cells C T (0,0)))(ho:o+1<C.size)(hC:NoW (.cells C T (0,0)))(hx:IntP x vx w A)(hy:IntP y vy w A)(hnx:(words x.natAbs).length<274877906944)(hny:(words y.natAbs).length<274877906944) :
  Calls Tryz.prog 89 #[.pointer (some ⟨m,o,none⟩),vx,vy] w fun e w'=>e=.returned (.pointer (some ⟨m,o,none⟩))∧Put m o C T (x - y) w w':=by
 have hc:=add_any m o C T x y (!decide (y<0)) vx vy A w hm ho hC hx hy hnx hny
 rw[sgn_not,←Int.sub_eq_add_neg] at hc
 have HC:=Lib.hid hc
 obtain⟨b2,bo2,sl2,rfl,hb2,_,d0,d1,hsl2⟩:=hy
 clear hc hm hC
 go_enter Tryz.func89,Tryz.ntmps89
 go_wp2_with (go_at_call 156; refine HC.out.mono ?_; rintro e w' ⟨rfl,hp⟩)
 go_ret
 exact⟨rfl,hp⟩
end Go.Proofs.YthklnbaddobieaaGreat
namespace Go.Proofs.YthklnbaddobieaaGreat
open Go.RowKit Tr
theorem Put.cells{m o:Nat}{C:Array Value}{T:TypeId}{z:Int}{w w':World}(h:Put m o C T z w w')(ho:o+1<C.size):∃ sl,w'.cell? ⟨m,o,none⟩=some (.bool (decide (z<0)))∧w'.cell? ⟨m,o+1,none⟩=some sl∧WSl w' sl (words z.natAbs)∧w'.heap[m]?=some (.cells ((C.setIfInBounds (o+1) sl).setIfInBounds o (.bool (decide (z<0)))) T (0,0))∧(∀ i,w'.frozen? ⟨m,i,none⟩=false):=by
 obtain⟨_,sl,h2,h3⟩:=h
 refine⟨sl,?_,?_,h3,h2,fun i=>by simp[World.frozen?,h2]⟩
 ·have hlt:o<C.size:=Nat.lt_of_succ_lt ho
  simp[World.cell?,h2,hlt]
 ·simp only[World.cell?,h2]
  simp[ho]
theorem put_again{m o:Nat}{C:Array Value}{T:TypeId}{z z':Int}{w w1:World}(h:Put m o C T z w w1)(hz:z'.natAbs=z.natAbs)(hC:NoW (.cells C T (0,0))):Put m o C T z' w (w1.setCell ⟨m,o,none⟩ (.bool (decide (z'<0)))):=by
 obtain⟨h1,sl,h2,h3⟩:=h
 have hsl:∃ p n c,sl=.slice p n c:=by obtain⟨p,c,e,_⟩:=h3; exact⟨_,_,_,e⟩
 obtain⟨p,n,c,rfl⟩:=hsl
 have hn:NoW (.cells ((C.setIfInBounds (o+1) (.slice p n c)).setIfInBounds o (.bool (decide (z<0)))) T (0,0)):=by
  intro cs T' fr e i k x hx
  cases e
  rw[Array.getElem?_setIfInBounds] at hx
  split at hx
  ·split at hx<;>simp at hx
  ·rw[Array.getElem?_setIfInBounds] at hx
   split at hx
   ·split at hx<;>simp at hx
   ·exact hC C T (0,0) rfl i k x hx
 refine⟨h1.setCell _ _,.slice p n c,?_,?_⟩
 ·simp only[World.setCell,Array.getElem?_modify,if_true,h2,Option.map_some]
  simp[Array.setIfInBounds_setIfInBounds]
 ·rw[hz]
  exact WSl.mod h3 ((Mod.refl m w1).setCell o _) h2 hn
theorem Neg_any(m o:Nat)(C:Array Value)(T:TypeId)(x:Int)(vx:Value)(A:Nat→Prop)(w:World)(hm:w.heap[m]?=some (.cells C T (0,0)))(ho:o+1<C.size)(hC:NoW (.cells C T (0,0)))(hx:IntP x vx w A)(hnx:(words x.natAbs).length<274877906944) :
  Calls Tryz.prog 146 #[.pointer (some ⟨m,o,none⟩),vx] w fun e w'=>e=.returned (.pointer (some ⟨m,o,none⟩))∧Put m o C T (-x) w w':=by
 have hc:=set_any m o C T x vx A w hm ho hC hx hnx
 obtain⟨b2,bo2,sl2,rfl,hb2,_,d0,d1,hsl2⟩:=hx
 have HC:=Lib.hid hc
 have HN:=Lib.hid hC
 clear hc hm hC d0 d1
 by_cases hz:x=0
 ·subst hz
  go_enter Tryz.func146,Tryz.ntmps146
  go_wp2_with (go_at_call 149; refine HC.out.mono ?_; rintro e w' ⟨rfl,hp⟩; obtain⟨sl,e1,e2,e3,e4,e5⟩:=hp.cells ho; obtain⟨p,cap,rfl,_,_⟩:=e3; have e6:=e5 o; clear e5 e4; rw[show(0:Int).natAbs=0 from rfl,words_zero] at e2)
  go_ret
  refine⟨rfl,?_⟩
  have:=put_again (z':=-0) hp rfl HN.out
  simpa using this
 ·have hpos:0<(words x.natAbs).length:=List.length_pos_iff.2 (fun h=>hz (by have:=words_eq_nil.1 h; omega))
  have hs:decide (-x<0)=!decide (x<0):=by by_cases h:x<0<;>simp[h]<;>omega
  have HS:=Lib.hid hs
  clear hs hz
  by_cases hx0:x<0
  ·have e0:decide (x<0)=true:=by simpa using hx0
   rw[e0] at HS
   go_enter Tryz.func146,Tryz.ntmps146
   go_wp2_with (go_at_call 149; refine HC.out.mono ?_; rintro e w' ⟨rfl,hp⟩; obtain⟨sl,e1,e2,e3,e4,e5⟩:=hp.cells ho; obtain⟨p,cap,rfl,_,_⟩:=e3; have e6:=e5 o; clear e5 e4; rw[e0] at e1)
   go_ret
   refine⟨rfl,?_⟩
   have:=put_again (z':=-x) hp (Int.natAbs_neg x) HN.out
   rw[HS.out] at this
   exact this
  ·have e0:decide (x<0)=false:=by simpa using hx0
   rw[e0] at HS
   go_enter Tryz.func146,Tryz.ntmps146
   go_wp2_with (go_at_call 149; refine HC.out.mono ?_; rintro e w' ⟨rfl,hp⟩; obtain⟨sl,e1,e2,e3,e4,e5⟩:=hp.cells ho; obtain⟨p,cap,rfl,_,_⟩:=e3; have e6:=e5 o; clear e5 e4; rw[e0] at e1)
   go_ret
   refine⟨rfl,?_⟩
   have:=put_again (z':=-x) hp (Int.natAbs_neg x) HN.out
   rw[HS.out] at this
   exact this
theorem Sign_any(x:Int)(vx:Value)(A:Nat→Prop)(w:World)(hx:IntP x vx w A) :
  Calls Tryz.prog 92 #[vx] w fun e w'=>e=.returned (.int .i64 x.sign)∧w=w':=by
 obtain⟨b,bo,sl,rfl,hb,_,c0,c1,hsl⟩:=hx
 obtain⟨p,cap,rfl,_,_⟩:=hsl
 rcases Int.lt_trichotomy x 0 with h|h|h
 ·have e0:decide (x<0)=true:=by simpa using h
  have hl:(((words x.natAbs).length:Int) == 0)=false:=by
   have:=List.length_pos_iff.2 (fun h0=>by have:=words_eq_nil.1 h0; omega:words x.natAbs≠[])
   simp; intro h0; rw[h0] at this; simp at this
  have hs:x.sign=-1:=Int.sign_eq_neg_one_of_neg h
  have HS:=Lib.hid hs
  rw[e0] at c0
  clear hs
  go_enter Tryz.func92,Tryz.ntmps92
  go_wp2
  go_ret
  exact⟨ret_int HS.out.symm,rfl⟩
 ·subst h
  rw[show(0:Int).natAbs=0 from rfl,words_zero] at c1
  go_enter Tryz.func92,Tryz.ntmps92
  go_wp2
  go_ret
  exact⟨rfl,rfl⟩
 ·have e0:decide (x<0)=false:=by simp; omega
  have hl:(((words x.natAbs).length:Int) == 0)=false:=by
   have:=List.length_pos_iff.2 (fun h0=>by have:=words_eq_nil.1 h0; omega:words x.natAbs≠[])
   simp; intro h0; rw[h0] at this; simp at this
  have hs:x.sign=1:=Int.sign_eq_one_of_pos h
  have HS:=Lib.hid hs
  rw[e0] at c0
  clear hs
  go_enter Tryz.func92,Tryz.ntmps92
  go_wp2
  go_ret
  exact⟨ret_int HS.out.symm,rfl⟩
end Go.Proofs.YthklnbaddobieaaGreat
