/- Laws for the walk. -/
import Derived.Test.YtjlhiaafnpompaaGreatZai
import Derived.Test.YtjlhiaafnpompaaGreatZax
import Derived.ChangeKeysEq
set_option linter.unusedVariables false
set_option maxHeartbeats 4000000
namespace Go.Proofs.YtjlhiaafnpompaaGreat
open Go.RowKit Tr
structure RawG where
 (n1 n2 n3 n4:Bool)
 (s1 s2 s3 s4:ByteArray)
def RawG.val(g:RawG):Value:=.agg #[.bool g.n1,.string g.s1,.bool g.n2,.string g.s2,.bool g.n3,.string g.s3,.bool g.n4,.string g.s4]
def RawG.cells(g:RawG):List GF:=[gx (.bool g.n1),gx (.string g.s1),gx (.bool g.n2),gx (.string g.s2),gx (.bool g.n3),gx (.string g.s3),gx (.bool g.n4),gx (.string g.s4)]
structure RawP where
 i:Bool
 g:RawG
def RawP.val(p:RawP):Value:=.agg #[.bool p.i,.bool p.g.n1,.string p.g.s1,.bool p.g.n2,.string p.g.s2,.bool p.g.n3,.string p.g.s3,.bool p.g.n4,.string p.g.s4]
def RawP.cells(p:RawP):List GF:=gx (.bool p.i) :: p.g.cells
def pA(i:Nat):List AC:=[.sym i,.sym (i+1),.sym (i+2),.sym (i+3),.sym (i+4),.sym (i+5),.sym (i+6),.sym (i+7),.sym (i+8)]
def GOk(v:Value):Prop:=∃ z:QC,v=encQ z∧ShortZ z
def POk(v:Value):Prop:=∃ p:Pt,v=encP p∧ShortP p
theorem gOk_iff(g:RawG):GOk g.val↔FracOk (.agg #[.bool g.n1,.string g.s1,.bool g.n2,.string g.s2])∧FracOk (.agg #[.bool g.n3,.string g.s3,.bool g.n4,.string g.s4]):=by
 constructor
 ·rintro⟨z,e,h1,h2⟩
  unfold RawG.val encQ encG at e
  simp only[Value.agg.injEq,Array.mk.injEq,List.cons.injEq,Value.bool.injEq,Value.string.injEq,and_true] at e
  obtain⟨e1,e2,e3,e4,e5,e6,e7,e8⟩:=e
  exact⟨⟨z.re,by unfold encF; rw[e1,e2,e3,e4],h1⟩,⟨z.im,by unfold encF; rw[e5,e6,e7,e8],h2⟩⟩
 ·rintro⟨⟨a,e,h1⟩,⟨b,f,h2⟩⟩
  obtain⟨e1,e2,e3,e4⟩:=encF_parts e
  obtain⟨f1,f2,f3,f4⟩:=encF_parts f
  refine⟨⟨a,b⟩,?_,h1,h2⟩
  unfold RawG.val encQ encG
  rw[e1,e2,e3,e4,f1,f2,f3,f4]
theorem pOk_num{p:RawP}(h:p.i=false):POk p.val↔GOk p.g.val:=by
 constructor
 ·rintro⟨q,e,hs⟩
  cases q with
  | none =>
   have e':p.val=infP:=e
   unfold RawP.val infP at e'
   simp[h] at e'
  | some z =>
   have e':p.val=encPt z:=e
   refine⟨z,?_,hs⟩
   unfold RawP.val encPt at e'
   unfold RawG.val encQ encG
   simp only[Value.agg.injEq,Array.mk.injEq,List.cons.injEq,Value.bool.injEq,Value.string.injEq,and_true] at e' ⊢
   exact e'.2
 ·rintro⟨z,e,hs⟩
  refine⟨some z,?_,hs⟩
  show p.val=encPt z
  unfold RawP.val encPt
  unfold RawG.val encQ encG at e
  simp only[Value.agg.injEq,Array.mk.injEq,List.cons.injEq,Value.bool.injEq,Value.string.injEq,and_true] at e ⊢
  exact⟨h,e⟩
theorem pOk_inf{p:RawP}(h:p.i=true):POk p.val↔p.val=infP:=by
 constructor
 ·rintro⟨q,e,hs⟩
  cases q with
  | none=>exact e
  | some z =>
   have e':p.val=encPt z:=e
   unfold RawP.val encPt at e'
   simp[h] at e'
 ·intro e; exact⟨none,e,trivial⟩
set_option maxRecDepth 100000 in
theorem run_eql_rp(w:World)(p q:RawP)(r:Bool)(hr:r=true↔p.val=q.val):(binOp .eql 51 p.val q.val).run Tryz.prog w=.ok (.bool r) w:=by
 obtain⟨i,n1,n2,n3,n4,s1,s2,s3,s4⟩:=p
 obtain⟨j,m1,m2,m3,m4,t1,t2,t3,t4⟩:=q
 simp only[RawP.val] at hr ⊢
 simp only[Value.agg.injEq,Array.mk.injEq,List.cons.injEq,Value.bool.injEq,Value.string.injEq,and_true] at hr
 go_simp
 simp only[toL_iff]
 cases r
 ·have hn:¬(i=j∧n1=m1∧s1=t1∧n2=m2∧s2=t2∧n3=m3∧s3=t3∧n4=m4∧s4=t4):=fun h=>by cases hr.2 h
  repeat' split
  all_goals first
   | rfl
   | (exfalso; apply hn; refine⟨?_,?_,?_,?_,?_,?_,?_,?_,?_⟩<;>assumption)
 ·obtain⟨rfl,rfl,rfl,rfl,rfl,rfl,rfl,rfl,rfl⟩:=hr.1 rfl
  simp
set_option maxRecDepth 100000 in
theorem run_eql_rg(w:World)(p q:RawG)(r:Bool)(hr:r=true↔p.val=q.val):(binOp .eql 27 p.val q.val).run Tryz.prog w=.ok (.bool r) w:=by
 obtain⟨n1,n2,n3,n4,s1,s2,s3,s4⟩:=p
 obtain⟨m1,m2,m3,m4,t1,t2,t3,t4⟩:=q
 simp only[RawG.val] at hr ⊢
 simp only[Value.agg.injEq,Array.mk.injEq,List.cons.injEq,Value.bool.injEq,Value.string.injEq,and_true] at hr
 go_simp
 simp only[toL_iff]
 cases r
 ·have hn:¬(n1=m1∧s1=t1∧n2=m2∧s2=t2∧n3=m3∧s3=t3∧n4=m4∧s4=t4):=fun h=>by cases hr.2 h
  repeat' split
  all_goals first
   | rfl
   | (exfalso; apply hn; refine⟨?_,?_,?_,?_,?_,?_,?_,?_⟩<;>assumption)
 ·obtain⟨rfl,rfl,rfl,rfl,rfl,rfl,rfl,rfl⟩:=hr.1 rfl
  simp
def rawQ(z:QC):RawG:=⟨decide (z.re.num<0),false,decide (z.im.num<0),false,strN z.re.num.natAbs,strN z.re.den,strN z.im.num.natAbs,strN z.im.den⟩
theorem rawQ_val(z:QC):(rawQ z).val=encQ z:=rfl
def rawPt:Pt→RawP
 | none=>⟨true,⟨false,false,false,false,⟨#[]⟩,⟨#[]⟩,⟨#[]⟩,⟨#[]⟩⟩⟩
 | some z=>⟨false,rawQ z⟩
theorem rawPt_val(p:Pt):(rawPt p).val=encP p:=by cases p<;>rfl
theorem encF_inj'{x y:Rat}(h:encF x=encF y):x=y:=by
 have:=h
 unfold encF at h
 simp only[Value.agg.injEq,Array.mk.injEq,List.cons.injEq,Value.bool.injEq,Value.string.injEq,and_true,true_and] at h
 obtain⟨h1,h2,h3⟩:=h
 have e2:=strN_inj h2
 have e3:=strN_inj h3
 refine Rat.ext ?_ e3
 by_cases hx:x.num<0<;>by_cases hy:y.num<0<;>simp[hx,hy] at h1<;>omega
theorem encQ_inj'{x y:QC}(h:encQ x=encQ y):x=y:=by
 unfold encQ encG at h
 simp only[Value.agg.injEq,Array.mk.injEq,List.cons.injEq,Value.bool.injEq,Value.string.injEq,and_true,true_and] at h
 obtain⟨h1,h2,h3,h4,h5,h6⟩:=h
 have e1:x.re=y.re:=encF_inj' (by unfold encF; rw[h1,h2,h3])
 have e2:x.im=y.im:=encF_inj' (by unfold encF; rw[h4,h5,h6])
 cases x; cases y; simp_all
theorem encP_inj'{p q:Pt}(h:encP p=encP q):p=q:=by
 cases p<;>cases q
 ·rfl
 ·simp[encP,infP,encPt] at h
 ·simp[encP,infP,encPt] at h
 ·rename_i x y
  have:encQ x=encQ y:=by
   unfold encQ encG
   simp only[encP,encPt,Value.agg.injEq,Array.mk.injEq,List.cons.injEq,Value.bool.injEq,Value.string.injEq,and_true,true_and] at h ⊢
   exact h
  rw[encQ_inj' this]
end Go.Proofs.YtjlhiaafnpompaaGreat
namespace Tr
open Go Go.RowKit Go.Proofs.YtjlhiaafnpompaaGreat
theorem ZL.r{z:QC}{k:Nat}(h:ZL z k):RL z.re k:=h.1
theorem ZL.i{z:QC}{k:Nat}(h:ZL z k):RL z.im k:=h.2
end Tr
namespace Go.Proofs.YtjlhiaafnpompaaGreat
open Go.RowKit Tr
end Go.Proofs.YtjlhiaafnpompaaGreat
namespace Go.Proofs.YtjlhiaafnpompaaGreat
open Go.RowKit Tr
structure RawS where
 x:RawG
 y:RawG
def RawS.val(s:RawS):Value:=.agg #[.bool s.x.n1,.string s.x.s1,.bool s.x.n2,.string s.x.s2,.bool s.x.n3,.string s.x.s3,.bool s.x.n4,.string s.x.s4,.bool s.y.n1,.string s.y.s1,.bool s.y.n2,.string s.y.s2,.bool s.y.n3,.string s.y.s3,.bool s.y.n4,.string s.y.s4]
def RawS.cells(s:RawS):List GF:=s.x.cells++s.y.cells
def zeroG:RawG:=⟨false,false,false,false,⟨#[]⟩,⟨#[]⟩,⟨#[]⟩,⟨#[]⟩⟩
end Go.Proofs.YtjlhiaafnpompaaGreat
namespace Go.Proofs.YtjlhiaafnpompaaGreat
open Go.RowKit Tr
def RawG.vals(g:RawG):List Value:=[.bool g.n1,.string g.s1,.bool g.n2,.string g.s2,.bool g.n3,.string g.s3,.bool g.n4,.string g.s4]
def RawP.vals(p:RawP):List Value:=.bool p.i :: p.g.vals
def syms(i n:Nat):List AC:=(List.range n).map fun k=>.sym (i+k)
theorem rawG_inj{g h:RawG}(e:g.val=h.val):g=h:=by
 obtain⟨n1,n2,n3,n4,s1,s2,s3,s4⟩:=g
 obtain⟨m1,m2,m3,m4,t1,t2,t3,t4⟩:=h
 simp only[RawG.val,Value.agg.injEq,Array.mk.injEq,List.cons.injEq,Value.bool.injEq,Value.string.injEq,and_true] at e
 obtain⟨rfl,rfl,rfl,rfl,rfl,rfl,rfl,rfl⟩:=e
 rfl
theorem rawP_inj{p q:RawP}(e:p.val=q.val):p=q:=by
 obtain⟨i,n1,n2,n3,n4,s1,s2,s3,s4⟩:=p
 obtain⟨j,m1,m2,m3,m4,t1,t2,t3,t4⟩:=q
 simp only[RawP.val,Value.agg.injEq,Array.mk.injEq,List.cons.injEq,Value.bool.injEq,Value.string.injEq,and_true] at e
 obtain⟨rfl,rfl,rfl,rfl,rfl,rfl,rfl,rfl,rfl⟩:=e
 rfl
theorem gOk_raw{g:RawG}(h:GOk g.val):∃ z,g=rawQ z∧ShortZ z:=by
 obtain⟨z,e,hs⟩:=h
 exact⟨z,rawG_inj (by rw[e,rawQ_val]),hs⟩
theorem pOk_raw{p:RawP}(h:POk p.val):∃ q,p=rawPt q∧ShortP q:=by
 obtain⟨q,e,hs⟩:=h
 exact⟨q,rawP_inj (by rw[e,rawPt_val]),hs⟩
theorem rawPt_ok{p:Pt}(h:ShortP p):POk (rawPt p).val:=⟨p,rawPt_val p,h⟩
end Go.Proofs.YtjlhiaafnpompaaGreat
namespace Go.Proofs.YtjlhiaafnpompaaGreat
open Go.RowKit Tr
set_option maxRecDepth 100000 in
theorem SMay_num(n1 n2 n3 n4:Bool)(s1 s2 s3 s4:ByteArray)(l1:s1.size<274877906944)(l2:s2.size<274877906944)(l3:s3.size<274877906944)(l4:s4.size<274877906944)(w:World) :
  Calls Tryz.prog 54 #[.agg #[.bool false,.bool n1,.string s1,.bool n2,.string s2,.bool n3,.string s3,.bool n4,.string s4]] w fun e w'=>e=.returned (.bool (okB n1 n2 s1 s2 && okB n3 n4 s3 s4))∧Below w.heap.size w w':=by
 have H1:=Lib.hid (GMay_any n1 n2 n3 n4 s1 s2 s3 s4 l1 l2 l3 l4 (w.alloc (.cells #[.bool false,.bool n1,.string s1,.bool n2,.string s2,.bool n3,.string s3,.bool n4,.string s4] 51)))
 have HA:=Lib.hid (show Below w.heap.size w (w.alloc (.cells #[.bool false,.bool n1,.string s1,.bool n2,.string s2,.bool n3,.string s3,.bool n4,.string s4] 51)) from br.alloc (Nat.le_refl _) _)
 obtain⟨r,hr⟩:∃ r,r=(okB n1 n2 s1 s2 && okB n3 n4 s3 s4):=⟨_,rfl⟩
 rw[←hr] at H1 ⊢
 clear hr
 go_enter Tryz.func54,Tryz.ntmps54
 go_wp2_with fail
 refine H1.out.mono ?_
 rintro e w1 ⟨rfl,hb1⟩
 have HB:=Lib.hid (HA.out.trans (hb1.mono (by simp)))
 clear hb1
 go_wp2
 go_ret
 exact⟨rfl,HB.out⟩
set_option maxRecDepth 100000 in
theorem SMay_inf (n1 n2 n3 n4 : Bool) (s1 s2 s3 s4 : ByteArray) (r : Bool) (hr : r = true ↔ .agg #[.bool true,.bool n1,.string s1,.bool n2,.string s2,.bool n3,.string s3,.bool n4,.string s4] = infP) (w : World) :
    Calls Tryz.prog 54 #[.agg #[.bool true,.bool n1,.string s1,.bool n2,.string s2,.bool n3,.string s3,.bool n4,.string s4]] w fun e w'=>e=.returned (.bool r)∧Below w.heap.size w w':=by
  obtain⟨W,hW⟩:∃ W,W=w.alloc (.cells #[.bool true,.bool n1,.string s1,.bool n2,.string s2,.bool n3,.string s3,.bool n4,.string s4] 51):=⟨_,rfl⟩
  obtain⟨⟨e0,e1,e2,e3,e4,e5,e6,e7,e8⟩,_⟩:=new_nine w (.bool true) (.bool n1) (.string s1) (.bool n2) (.string s2) (.bool n3) (.string s3) (.bool n4) (.string s4) 51 br
  rw[←hW] at e0 e1 e2 e3 e4 e5 e6 e7 e8
  have hs:w.heap.size<W.heap.size:=by rw[hW]; simp
  have hb:Below w.heap.size w W:=by rw[hW]; exact br.alloc (Nat.le_refl _) _
  have HV:=Lib.hid (And.intro hW (And.intro hb hr))
  clear hW hb hr
  go_enter Tryz.func54,Tryz.ntmps54
  go_wp2_with fail
  rw[←HV.out.1]
  try go_wp2_with fail
  refine wp_region_inv [(.lit,[]),(.val,[])]
    (pickF [(1,fun v _ _=>v=.agg #[.bool true,.bool false,.string ⟨#[]⟩,.bool false,.string ⟨#[]⟩,.bool false,.string ⟨#[]⟩,.bool false,.string ⟨#[]⟩])]) (by kernel_rfl) ?_ ?_ (by simp) (by simp) (by kernel_rfl)
  · exact keeps_pick (by simp only[List.mem_cons,List.not_mem_nil,or_false]; rintro p rfl; exact fun _ _ _ _ _ _ _ h=>h)
  · refine⟨_,fun f w1 h1=>by(have d0:=ct h1 hs e0; have d1:=ct h1 hs e1; have d2:=ct h1 hs e2; have d3:=ct h1 hs e3; have d4:=ct h1 hs e4; have d5:=ct h1 hs e5; have d6:=ct h1 hs e6; have d7:=ct h1 hs e7; have d8:=ct h1 hs e8; go_simp; rfl),?_⟩
    simp only[Act.put,nrA,nrB,nrC,Nat.reduceAdd]
    refine⟨fun f w1 A1 k1 hA hN hd K hK=>by
      go_simp
      refine(Infinity_any w1).mono ?_
      rintro e w' ⟨rfl,hb⟩
      exact hK _ _ hb rfl,?_⟩
    intro f w1 k1 hF
    have i2:f 1=.agg #[.bool true,.bool false,.string ⟨#[]⟩,.bool false,.string ⟨#[]⟩,.bool false,.string ⟨#[]⟩,.bool false,.string ⟨#[]⟩]:=hF.2
    clear hF
    simp only[Act.put,nrA,nrB,nrC]
    obtain⟨t0,ht0⟩:∃ t0:ByteArray,t0=⟨#[]⟩:=⟨_,rfl⟩
    rw[←ht0] at i2
    rw[i2]
    clear i2
    have HT:=Lib.hid ht0
    clear ht0
    have HB:=Lib.hid (HV.out.2.1.trans ((br.drew.trans k1).mono HV.out.2.1.size))
    clear k1 e0 e1 e2 e3 e4 e5 e6 e7 e8
    go_wp2
    all_goals (
      go_ret
      refine⟨?_,HB.out⟩
      have hre:=HV.out.2.2
      unfold infP at hre
      rw[←HT.out] at hre
      simp only[Value.agg.injEq,Array.mk.injEq,List.cons.injEq,Value.bool.injEq,Value.string.injEq,and_true,true_and] at hre
      simp only[toL_iff] at *
      first
        | (have hr : r = true := hre.2 (by simp [*])
           rw[hr]; rfl)
        | (have hr : r = false := by
             cases h:r
             · rfl
             · obtain⟨a,b,c,d,e,f,g,h⟩:=hre.1 h
               exfalso
               subst_vars
               contradiction
           rw[hr]; rfl))
end Go.Proofs.YtjlhiaafnpompaaGreat
namespace Go.Proofs.YtjlhiaafnpompaaGreat
open Go.RowKit Tr
theorem tI{p:Prop}(h:p):true=true↔p:=⟨fun _=>h,fun _=>rfl⟩
theorem fI{p:Prop}(h:¬p):false=true↔p:=⟨fun e=>(by cases e),fun e=>absurd e h⟩
def gr(q:Rat):GF where
 R:=RatP q
 int:=false
 keeps:=RatP.keeps q
 cell:=fun v w A h=>by obtain⟨b,rfl,_⟩:=h; rfl
 noint:=fun _ v w A h k x=>by obtain⟨b,rfl,_⟩:=h; simp
 ex:=none
 exact:=fun u e=>by cases e
def gro(q:Rat):GF where
 R:=RatO q
 int:=false
 keeps:=RatO.keeps q
 cell:=fun v w A h=>by rcases h with⟨rfl,_⟩|⟨b,rfl,_⟩<;>rfl
 noint:=fun _ v w A h k x=>by rcases h with⟨rfl,_⟩|⟨b,rfl,_⟩<;>simp
 ex:=none
 exact:=fun u e=>by cases e
def cq(z:QC):List GF:=[gr z.re,gr z.im]
def cn(z:QC):List GF:=[gro z.re,gro z.im]
section
variable{w:World}{A:Nat→Prop}{v:Value}
theorem okg_cons{g:GF}{l:List GF}{vs:List Value}:okg (g :: l) vs w A↔∃ u us,vs=u :: us∧g.R u w A∧okg l us w A:=by
 cases vs with
 | nil=>exact⟨fun h=>h.elim,fun⟨_,_,e,_⟩=>by cases e⟩
 | cons u us=>exact⟨fun h=>⟨u,us,rfl,h.1,h.2⟩,fun⟨_,_,e,h⟩=>by cases e; exact h⟩
theorem okg_nil{vs:List Value}:okg [] vs w A↔vs=[]:=by
 cases vs with
 | nil=>exact⟨fun _=>rfl,fun _=>trivial⟩
 | cons u us=>exact⟨fun h=>h.elim,fun e=>by cases e⟩
theorem cq_iff{z:QC}:(FR.row (cq z)).R v w A↔CQ z v w A:=by
 constructor
 ·rintro⟨vs,rfl,h⟩
  obtain⟨u1,_,rfl,h1,h⟩:=okg_cons.1 h
  obtain⟨u2,_,rfl,h2,h⟩:=okg_cons.1 h
  cases okg_nil.1 h
  exact⟨u1,u2,rfl,h1,h2⟩
 ·rintro⟨u1,u2,rfl,h1,h2⟩
  exact⟨[u1,u2],rfl,h1,h2,trivial⟩
theorem cn_iff{z:QC}:(FR.row (cn z)).R v w A↔NumO z.re z.im v w A:=by
 constructor
 ·rintro⟨vs,rfl,h⟩
  obtain⟨u1,_,rfl,h1,h⟩:=okg_cons.1 h
  obtain⟨u2,_,rfl,h2,h⟩:=okg_cons.1 h
  cases okg_nil.1 h
  exact⟨u1,u2,rfl,h1,h2⟩
 ·rintro⟨u1,u2,rfl,h1,h2⟩
  exact⟨[u1,u2],rfl,h1,h2,trivial⟩
theorem pq_iff{x y:QC}:(FR.row (cq x++cq y)).R v w A↔PQ x y v w A:=by
 constructor
 ·rintro⟨vs,rfl,h⟩
  obtain⟨u1,_,rfl,h1,h⟩:=okg_cons.1 h
  obtain⟨u2,_,rfl,h2,h⟩:=okg_cons.1 h
  obtain⟨u3,_,rfl,h3,h⟩:=okg_cons.1 h
  obtain⟨u4,_,rfl,h4,h⟩:=okg_cons.1 h
  cases okg_nil.1 h
  exact⟨u1,u2,u3,u4,rfl,h1,h2,h3,h4⟩
 ·rintro⟨u1,u2,u3,u4,rfl,h1,h2,h3,h4⟩
  exact⟨[u1,u2,u3,u4],rfl,h1,h2,h3,h4,trivial⟩
end
def RawG.Sz(g:RawG):Prop:=g.s1.size≤1000000000∧g.s2.size≤1000000000∧g.s3.size≤1000000000∧g.s4.size≤1000000000
def RawP.Sz(p:RawP):Prop:=p.g.Sz
def flA(l:List (List AC)):List AC:=l.flatten
def zFA:List AC:=[.lit (.bool false),.lit .str0,.lit (.bool false),.lit .str0]
def zGA:List AC:=zFA++zFA
def zFG:List GF:=[gl (.bool false),gl .str0,gl (.bool false),gl .str0]
def zGG:List GF:=zFG++zFG
def Q1(z:QC):FR:=.row (cq z)
def B1(b:Bool):FV:=.r (.c (gx (.bool b)))
theorem pGZero(g:RawG)(r:Bool)(hr:r=true↔g=rawQ ⟨0,0⟩):SpecC Tryz.prog true 43 [.row g.cells] (B1 r) :=
 spec1 eo43 fun w A u _ _ hu=>by
  rw[(FR.val_ok (u:=g.val) (x:=.row g.cells) (by kernel_rfl)).1 hu]
  refine(GZero_any g.n1 g.n2 g.n3 g.n4 g.s1 g.s2 g.s3 g.s4 r ?_ w).mono fun r' w' h=>⟨_,h.1,rfl,h.2⟩
  rw[hr]
  exact⟨fun h=>by rw[h]; rfl,fun h=>rawG_inj (by rw[rawQ_val]; exact h)⟩
theorem pGInt(i j:Int)(a1:-9223372036854775808≤i)(a2:i<9223372036854775808)(b1:-9223372036854775808≤j)(b2:j<9223372036854775808):SpecC Tryz.prog false 16 [.c (gx (.int .i64 i)),.c (gx (.int .i64 j))] (.r (.row (rawQ ⟨(i:Rat),(j:Rat)⟩).cells)) :=
 spec_pure eo16 (vs:=[.int .i64 i,.int .i64 j]) (v:=encG (i:Rat) (j:Rat)) (fun w=>GInt_any i j a1 a2 b1 b2 w) (by kernel_rfl) (by kernel_rfl)
theorem pSMay(p:RawP)(hs:p.Sz)(r:Bool)(hr:r=true↔POk p.val):SpecC Tryz.prog true 54 [.row p.cells] (B1 r) :=
 spec1 eo54 fun w A u _ _ hu=>by
  obtain⟨l1,l2,l3,l4⟩:=hs
  rw[(FR.val_ok (u:=p.val) (x:=.row p.cells) (by kernel_rfl)).1 hu]
  obtain⟨i,g⟩:=p
  cases i
  ·refine(SMay_num g.n1 g.n2 g.n3 g.n4 g.s1 g.s2 g.s3 g.s4 (by simp only at l1; omega) (by simp only at l2; omega) (by simp only at l3; omega) (by simp only at l4; omega) w).mono fun r' w' h=>⟨_,h.1,?_,h.2⟩
   show Value.bool _=Value.bool r
   congr 1
   rw[Bool.eq_iff_iff,hr,pOk_num (p:=⟨false,g⟩) rfl,gOk_iff,Bool.and_eq_true,okB_iff,okB_iff]
  ·refine(SMay_inf g.n1 g.n2 g.n3 g.n4 g.s1 g.s2 g.s3 g.s4 r ?_ w).mono fun r' w' h=>⟨_,h.1,rfl,h.2⟩
   rw[hr]; exact pOk_inf (p:=⟨true,g⟩) rfl
theorem pMul(x y:QC){m l:Nat}(hx:ZL x m)(hy:ZL y l)(hb:m+l+(m+l)<137438953472):SpecC Tryz.prog true 69 [Q1 x,Q1 y] (.r (Q1 (x*y))) :=
 spec2 eo69 fun w A u v hR _ hu hv=>(QMul_any x y u v A w (cq_iff.1 hu) (cq_iff.1 hv) (hR rfl) m l hx hy hb).mono fun e w' ⟨z,h1,h2,h3⟩=>⟨z,h1,cq_iff.2 h3,h2⟩
theorem pAdd(x y:QC){m l:Nat}(hx:ZL x m)(hy:ZL y l)(hb:m+l<137438953472):SpecC Tryz.prog true 68 [Q1 x,Q1 y] (.r (Q1 (x+y))) :=
 spec2 eo68 fun w A u v hR _ hu hv=>(QAdd_any x y u v A w (cq_iff.1 hu) (cq_iff.1 hv) (hR rfl) m l hx hy hb).mono fun e w' ⟨z,h1,h2,h3⟩=>⟨z,h1,cq_iff.2 h3,h2⟩
theorem pSub(x y:QC){m l:Nat}(hx:ZL x m)(hy:ZL y l)(hb:m+l<137438953472):SpecC Tryz.prog true 45 [Q1 x,Q1 y] (.r (Q1 (x - y))) :=
 spec2 eo45 fun w A u v hR _ hu hv=>(QSub_any x y u v A w (cq_iff.1 hu) (cq_iff.1 hv) (hR rfl) m l hx hy hb).mono fun e w' ⟨z,h1,h2,h3⟩=>⟨z,h1,cq_iff.2 h3,h2⟩
theorem pPSame(x1 y1 x2 y2:QC){m l:Nat}(l1:ZL x1 m)(l2:ZL y1 m)(l3:ZL x2 l)(l4:ZL y2 l)(hb:m+l+(m+l)+1+(l+m+(l+m)+1)<137438953472)(r:Bool)(hr:r=true↔x1*y2=x2*y1):SpecC Tryz.prog true 57 [.row (cq x1++cq y1),.row (cq x2++cq y2)] (B1 r) :=
 spec2 eo57 fun w A u v hR _ hu hv=>(PSame_any x1 y1 x2 y2 u v A w (pq_iff.1 hu) (pq_iff.1 hv) m l l1 l2 l3 l4 hb r hr).mono fun e w' h=>⟨_,h.1,rfl,h.2⟩
def outR(x y:QC):RawP:=if y=⟨0,0⟩ then rawPt none else if ShortF (x / y).re∧ShortF (x / y).im then rawPt (some (x / y)) else⟨false,zeroG⟩
theorem outR_val(x y:QC):(outR x y).val=outP x y:=by
 unfold outR outP
 split
 ·rfl
 ·split
  ·rfl
  ·rfl
theorem pPPoint(x y:QC){m l:Nat}(lx:ZL x m)(ly:ZL y l)(hb:(m+l+(m+l)+1)+(l+l+(l+l)+1)<137438953472):SpecC Tryz.prog true 42 [.row (cq x++cq y)] (.tup [.row (outR x y).cells,.c (gx (.int .i64 (outPC x y)))]) :=
 spec1 eo42 fun w A u _ _ hu=>(PPoint_any x y u A w (pq_iff.1 hu) m l lx ly hb).mono fun e w' h=>⟨_,h.1,(FV.val_ok (u:=.tuple #[(outR x y).val,.int .i64 (outPC x y)]) (x:=.tup [.row (outR x y).cells,.c (gx (.int .i64 (outPC x y)))]) (by kernel_rfl)).2 (by rw[outR_val]),h.2⟩
theorem strN_den(q:Rat):numS (strN q.den)≠0:=by rw[numS_strN]; exact q.den_nz
theorem divInt_str(q:Rat):Rat.divInt (sgn (decide (q.num<0)) (numS (strN q.num.natAbs))) (sgn false (numS (strN q.den)))=q:=by
 rw[numS_strN,numS_strN,sgn_self]
 exact Rat.num_divInt_den q
theorem size_short{n:Nat}(h:(strN n).size≤1024):(strN n).size<274877906944:=by omega
theorem pOf(z:QC)(h:ShortZ z):SpecC Tryz.prog true 70 [.row (rawQ z).cells] (.r (Q1 z)) :=
 spec1 eo70 fun w A u hR _ hu=>by
  rw[(FR.val_ok (u:=(rawQ z).val) (x:=.row (rawQ z).cells) (by kernel_rfl)).1 hu]
  have:=XOf_any (decide (z.re.num<0)) false (decide (z.im.num<0)) false (strN z.re.num.natAbs) (strN z.re.den) (strN z.im.num.natAbs) (strN z.im.den) (strN_den _) (strN_den _) (size_short h.1.1) (size_short h.1.2) (size_short h.2.1) (size_short h.2.2) A w (hR rfl)
  rw[divInt_str,divInt_str] at this
  exact this.mono fun e w' ⟨u,h1,h2,h3⟩=>⟨u,h1,cq_iff.2 h3,h2⟩
theorem point_of(p:Pt)(h:ShortP p)(A:Nat→Prop)(w:World)(hA:Rcv A w):Calls Tryz.prog 56 #[(rawPt p).val] w fun e w'=>∃ u,e=.returned u∧Below w.heap.size w w'∧PQ (ptX p) (ptY p) u w' A:=by
 cases p with
 | none=>exact XPoint_any true false false false false ⟨#[]⟩ ⟨#[]⟩ ⟨#[]⟩ ⟨#[]⟩ (fun h=>by cases h) (fun h=>by cases h) (by decide) (by decide) (by decide) (by decide) A w hA 1 0 0 rfl rfl rfl
 | some z=>exact XPoint_any false (decide (z.re.num<0)) false (decide (z.im.num<0)) false (strN z.re.num.natAbs) (strN z.re.den) (strN z.im.num.natAbs) (strN z.im.den) (fun _=>strN_den _) (fun _=>strN_den _) (size_short h.1.1) (size_short h.1.2) (size_short h.2.1) (size_short h.2.2) A w hA z.re z.im 1 (by rw[divInt_str]; rfl) (by rw[divInt_str]; rfl) rfl
theorem pPoint(p:Pt)(h:ShortP p):SpecC Tryz.prog true 56 [.row (rawPt p).cells] (.r (.row (cq (ptX p)++cq (ptY p)))) :=
 spec1 eo56 fun w A u hR _ hu=>by
  rw[(FR.val_ok (u:=(rawPt p).val) (x:=.row (rawPt p).cells) (by kernel_rfl)).1 hu]
  exact(point_of p h A w (hR rfl)).mono fun e w' ⟨u,h1,h2,h3⟩=>⟨u,h1,pq_iff.2 h3,h2⟩
def bI{P:Program}{L:List GF}(op:BinOp)(t:TypeId)(x y:AC)(a b:Int)(c:Bool)(h:cmpB op a b=some c)(hx:x.gv L=some (.int .i64 a):=by kernel_rfl)(hy:y.gv L=some (.int .i64 b):=by kernel_rfl):GB P L:=gbInt op t .i64 x y a b c h hx hy
section
variable{L:List GF}
def bG(x y:AR)(g h:RawG)(r:Bool)(hr:r=true↔g=h)(hx:x.gv L=some g.val:=by kernel_rfl)(hy:y.gv L=some h.val:=by kernel_rfl):GB Tryz.prog L :=
 gb .eql 27 x y (.lit (.bool r)) (agg_eql (by kernel_rfl) (fun w=>run_eql_rg w g h r (by rw[hr]; exact⟨fun e=>by rw[e],rawG_inj⟩))) hx hy rfl
def bP(x y:AR)(p q:RawP)(r:Bool)(hr:r=true↔p=q)(hx:x.gv L=some p.val:=by kernel_rfl)(hy:y.gv L=some q.val:=by kernel_rfl):GB Tryz.prog L :=
 gb .eql 51 x y (.lit (.bool r)) (agg_eql (by kernel_rfl) (fun w=>run_eql_rp w p q r (by rw[hr]; exact⟨fun e=>by rw[e],rawP_inj⟩))) hx hy rfl
end
theorem shortF_lt{q:Rat}(h1:q.num.natAbs<256 ^ 1024)(h2:q.den<256 ^ 1024):ShortF q:=⟨by rw[size_strN]; exact byteLE_le h1,by rw[size_strN]; exact byteLE_le h2⟩
theorem short_c{z:QC}(h:(z.re.num.natAbs<256 ^ 1024∧z.re.den<256 ^ 1024)∧z.im.num.natAbs<256 ^ 1024∧z.im.den<256 ^ 1024):ShortZ z:=⟨shortF_lt h.1.1 h.1.2,shortF_lt h.2.1 h.2.2⟩
theorem sz_short{z:QC}(h:ShortZ z):(rawQ z).Sz:=by
 obtain⟨⟨h1,h2⟩,h3,h4⟩:=h
 exact⟨Nat.le_trans h1 (by decide),Nat.le_trans h2 (by decide),Nat.le_trans h3 (by decide),Nat.le_trans h4 (by decide)⟩
theorem sz_shortP{p:Pt}(h:ShortP p):(rawPt p).Sz:=by
 cases p with
 | none=>exact⟨by decide,by decide,by decide,by decide⟩
 | some z=>exact sz_short h
theorem rawQ_inj{z w:QC}:rawQ z=rawQ w↔z=w:=⟨fun h=>encQ_inj' (by rw[←rawQ_val,←rawQ_val,h]),fun h=>by rw[h]⟩
end Go.Proofs.YtjlhiaafnpompaaGreat
namespace Go.Proofs.YtjlhiaafnpompaaGreat
open Go.RowKit Tr
end Go.Proofs.YtjlhiaafnpompaaGreat
namespace Go.Proofs.YtjlhiaafnpompaaGreat
open Go.RowKit Tr
def Sz(s:ByteArray):Int:=(s.size:Nat)
def lS{L:List GF}(x:AC)(s:ByteArray)(res:AC)(hn:x.noown=true:=by kernel_rfl)(hx:x.gv L=some (.string s):=by kernel_rfl)(hr:res.gv L=some (.int .i64 (Sz s)):=by kernel_rfl):GO Tryz.prog L :=
 goLenS 9 Tryz.underlying9 x s res hn hx hr
theorem outR_is{x y z:QC}(h0:y≠⟨0,0⟩)(hz:x / y=z)(hs:ShortZ z):outR x y=rawPt (some z):=by
 subst hz
 unfold outR
 rw[if_neg h0]
 exact if_pos hs
theorem outPC_is{x y z:QC}(h0:y≠⟨0,0⟩)(hz:x / y=z)(hs:ShortZ z):outPC x y=0:=by
 subst hz
 unfold outPC
 rw[if_neg h0]
 exact if_pos hs
end Go.Proofs.YtjlhiaafnpompaaGreat
namespace Go.Proofs.YtjlhiaafnpompaaGreat
open Go.RowKit Tr
theorem RatO.shape{q:Rat}{v:Value}{w:World}{A:Nat→Prop}(h:RatO q v w A):∃ p,v=.pointer p:=by
 rcases h with⟨rfl,_⟩|h
 ·exact⟨none,rfl⟩
 ·obtain⟨m,rfl⟩:=h.shape
  exact⟨_,rfl⟩
theorem put_numO{a b:Rat}{v1 v2:Value}{w w1:World}{A:Nat→Prop}{n:Nat}(hb:Below w.heap.size w w1)(h1:RatO a v1 w1 (Mo A n))(h2:RatO b v2 w1 (Mo A n))(hn:w.heap.size≤n) :
  ∃ u,Ending.returned (.agg #[v1,v2])=.returned u∧Below w.heap.size w ((w1.setCell ⟨n,0,none⟩ v1).setCell ⟨n,1,none⟩ v2)∧NumO a b u ((w1.setCell ⟨n,0,none⟩ v1).setCell ⟨n,1,none⟩ v2) A:=by
 refine⟨_,rfl,(hb.setCell (p:=⟨n,0,none⟩) hn _).setCell (p:=⟨n,1,none⟩) hn _,v1,v2,rfl,?_,?_⟩
 ·exact more_less _ (RatO.keeps a) (keep_set _ (RatO.keeps a) (keep_set _ (RatO.keeps a) h1))
 ·exact more_less _ (RatO.keeps b) (keep_set _ (RatO.keeps b) (keep_set _ (RatO.keeps b) h2))
set_option maxRecDepth 100000 in
theorem NDiv_any(a b c d n:Rat)(hn:n=c*c+d*d)(hn0:n≠0)(v v':Value)(A:Nat→Prop)(w:World)(hv:NumO a b v w A)(hv':NumO c d v' w A)(hA:Rcv A w)(k l:Nat)(hla:RL a k)(hlb:RL b k)(hlc:RL c l)(hld:RL d l)(hkl:(k+l+(k+l)+1)+(l+l+(l+l)+1)<137438953472) :
  Calls Tryz.prog 49 #[v,v'] w fun e w'=>∃ u,e=.returned u∧Below w.heap.size w w'∧NumO ((a*c - b*(-d))*n⁻¹) ((a*(-d)+b*c)*n⁻¹) u w' A:=by
 have hv0:=new_more (NumO.keeps a b) (n:=w.heap.size+2) br (by omega) hv
 have hv0':=new_more (NumO.keeps c d) (n:=w.heap.size+2) br (by omega) hv'
 obtain⟨u1,u2,rfl,h1,h2⟩:=hv
 obtain⟨u3,u4,rfl,h3,h4⟩:=hv'
 clear h1 h2 h3 h4
 obtain⟨W,HV,hs1,hs2,e0,e1,e2,e3⟩:=box_two w u1 u2 u3 u4 A hA
 have hx:=Fact.Keeps.below (FactU.keeps (NumO.keeps a b)) HV.out.2.1 hv0
 have hy:=Fact.Keeps.below (FactU.keeps (NumO.keeps c d)) HV.out.2.1 hv0'
 have HN:=Lib.hid (And.intro hn hn0)
 clear hA hv0 hv0' hn hn0
 have lm1:RL (a*c - b*(-d)) (k+l+(k+l)+1):=RL_sub (RL_mul hla hlc) (RL_mul hlb (RL_neg hld))
 have lm2:RL (a*(-d)+b*c) (k+l+(k+l)+1):=RL_add (RL_mul hla (RL_neg hld)) (RL_mul hlb hlc)
 have ln:RL n (l+l+(l+l)+1):=by rw[HN.out.1]; exact RL_add (RL_mul hlc hlc) (RL_mul hld hld)
 have li:RL n⁻¹ (l+l+(l+l)+1):=RL_inv HN.out.2 ln
 go_enter Tryz.func49,Tryz.ntmps49
 go_wp2_with fail
 rw[←HV.out.1]
 refine wp_region_inv [(.lit,[]),(.lit,[]),(.val,[]),(.val,[2]),(.new zR,[]),(.lit,[]),(.val,[]),(.on 4 zR,[6]),(.val,[3,7])]
  (pickF [(2,FactU (Mo A (w.heap.size+2)) (NumO c (-d))),(3,FactU (Mo A (w.heap.size+2)) (NumO (a*c - b*(-d)) (a*(-d)+b*c))),(6,FactU (Mo A (w.heap.size+2)) (RatP n)),(7,FactU (Mo A (w.heap.size+2)) (RatP n⁻¹)),(8,FactU (Mo A (w.heap.size+2)) (NumO ((a*c - b*(-d))*n⁻¹) ((a*(-d)+b*c)*n⁻¹)))]) (by kernel_rfl) ?_ ?_ (by simp[noW_zRat]) (by simp) (by kernel_rfl)
 ·exact keeps_pick (by simp only[List.mem_cons,List.not_mem_nil,or_false]; rintro p (rfl|rfl|rfl|rfl|rfl)<;>first|exact FactU.keeps (RatP.keeps _)|exact FactU.keeps (NumO.keeps _ _))
 ·refine⟨_,fun f w1 h1=>by(have d0:=ct h1 hs1 e0; have d1:=ct h1 hs1 e1; have d2:=ct h1 hs2 e2; have d3:=ct h1 hs2 e3; go_simp; rfl),?_⟩
  refine⟨_,fun f w1 h1=>by(have d0:=ct h1 hs1 e0; have d1:=ct h1 hs1 e1; have d2:=ct h1 hs2 e2; have d3:=ct h1 hs2 e3; go_simp; rfl),?_⟩
  simp only[Act.put,nrA,nrB,nrC,Nat.reduceAdd]
  refine⟨fun f w1 A1 k1 hA hN hd K hK=>by
   go_simp
   refine(NConj_any c d _ (Un (Mo A (w.heap.size+2)) A1) w1 (later (FactU.keeps (NumO.keeps _ _)) hy k1 hN) (rcv_un (HV.out.2.2.1.below (br.drew.trans k1)) hA) (hld.mono (by omega))).mono ?_
   rintro e w' ⟨v,rfl,hb,hr⟩
   exact hK _ _ hb hr,?_⟩
  simp only[Act.put,nrA,nrB,nrC,Nat.reduceAdd]
  refine⟨fun f w1 A1 k1 hA hN hd K hK=>by
   have i2:NumO c (-d) (f 2) w1 (Un (Mo A (w.heap.size+2)) A1):=hd 2 (by simp)
   go_simp
   refine(NMul_any a b c (-d) _ _ (Un (Mo A (w.heap.size+2)) A1) w1 (later (FactU.keeps (NumO.keeps _ _)) hx k1 hN) i2 (rcv_un (HV.out.2.2.1.below (br.drew.trans k1)) hA) k l hla hlb hlc (RL_neg hld) (by omega)).mono ?_
   rintro e w' ⟨v,rfl,hb,hr⟩
   exact hK _ _ hb hr,?_⟩
  refine⟨fun f w1=>by go_simp,?_⟩
  refine⟨_,fun f w1 h1=>by(have d0:=ct h1 hs1 e0; have d1:=ct h1 hs1 e1; have d2:=ct h1 hs2 e2; have d3:=ct h1 hs2 e3; go_simp; rfl),?_⟩
  simp only[Act.put,nrA,nrB,nrC,Nat.reduceAdd]
  refine⟨fun f w1 A1 k1 hA hN hd K hK=>by
   go_simp
   refine(NNorm_any c d _ (Un (Mo A (w.heap.size+2)) A1) w1 (later (FactU.keeps (NumO.keeps _ _)) hy k1 hN) (rcv_un (HV.out.2.2.1.below (br.drew.trans k1)) hA) l hlc hld (by omega)).mono ?_
   rintro e w' ⟨v,rfl,hb,hr⟩
   rw[←HN.out.1] at hr
   exact hK _ _ hb hr,?_⟩
  simp only[Act.put,nrA,nrB,nrC,Nat.reduceAdd]
  refine⟨fun f w1 A1 m1 k1 hA hN hAm hm0 e hz hd K hK=>by
   simp only[e] at hK ⊢
   have i6:RatP n (f 6) w1 (Un (Mo A (w.heap.size+2)) A1):=hd 6 (by simp)
   go_simp
   refine(RInv_any m1 _ n HN.out.2 _ _ w1 hz (by decide) noW_zRat i6 _ ln (by omega)).mono ?_
   rintro e w' ⟨rfl,hp⟩
   exact hK _ w' hp.1 (hp.ratU (HV.out.2.2.1.below (br.drew.trans k1)) hA hm0 (fun b hb=>HV.out.2.2.1.lt hb)),?_⟩
  simp only[Act.put,nrA,nrB,nrC,Nat.reduceAdd]
  refine⟨fun f w1 A1 k1 hA hN hd K hK=>by
   have i3:NumO (a*c - b*(-d)) (a*(-d)+b*c) (f 3) w1 (Un (Mo A (w.heap.size+2)) A1):=hd 3 (by simp)
   have i7:RatP n⁻¹ (f 7) w1 (Un (Mo A (w.heap.size+2)) A1):=hd 7 (by simp)
   go_simp
   refine(NScale_any _ _ _ _ _ (Un (Mo A (w.heap.size+2)) A1) w1 i3 (.inr i7) (rcv_un (HV.out.2.2.1.below (br.drew.trans k1)) hA) _ _ lm1 lm2 li hkl).mono ?_
   rintro e w' ⟨v,rfl,hb,hr⟩
   exact hK _ _ hb hr,?_⟩
  intro f w1 k1 hF
  have i8:NumO ((a*c - b*(-d))*n⁻¹) ((a*(-d)+b*c)*n⁻¹) (f 8) w1 (Mo A (w.heap.size+2)):=FactU.done (NumO.keeps _ _) hF.2
  clear hF
  simp only[Act.put,nrA,nrB,nrC]
  generalize f 2=x2
  generalize f 3=x3
  generalize f 6=x6
  generalize f 7=x7
  generalize f 8=x8 at *
  obtain⟨y1,y2,rfl,j1,j2⟩:=i8
  have hb1:Below W.heap.size W w1:=br.drew.trans k1
  obtain⟨c0,c1,f0,f1⟩:=HV.out.2.2.2 w1 hb1
  have HE:=Lib.hid (And.intro j1 (And.intro j2 (HV.out.2.1.trans (hb1.mono HV.out.2.1.size))))
  obtain⟨m1,rfl⟩:=j1.shape
  obtain⟨m2,rfl⟩:=j2.shape
  clear e0 e1 e2 e3 j1 j2 hb1 k1 hx hy lm1 lm2 ln li
  go_wp2_with fail
  refine bodyPost_ret (v:=.agg #[.pointer m1,.pointer m2]) (by simp[results,Tryz.results49,go_sem,c0,c1]) rfl ?_
  exact put_numO HE.out.2.2 HE.out.1 HE.out.2.1 (by omega)
set_option maxRecDepth 100000 in
theorem NTold_any(a b:Rat)(v:Value)(A:Nat→Prop)(w:World)(hv:NumO a b v w A)(hla:RL a 137438953472)(hlb:RL b 137438953472) :
  Calls Tryz.prog 64 #[v] w fun e w'=>e=.returned (.tuple #[outG a b,.int .i64 (outGC a b)])∧Below w.heap.size w w':=by
 obtain⟨u1,u2,rfl,h1,h2⟩:=hv
 obtain⟨b1,t1,b2,t2,ea⟩:=outF_four a
 obtain⟨b3,t3,b4,t4,eb⟩:=outF_four b
 obtain⟨k1,hk1⟩:∃ k1,k1=outC a:=⟨_,rfl⟩
 obtain⟨k2,hk2⟩:∃ k2,k2=outC b:=⟨_,rfl⟩
 obtain⟨W0,hW0⟩:∃ W0,W0=w.alloc (.cells #[u1,u2] 61):=⟨_,rfl⟩
 have hz0:W0.heap.size=w.heap.size+1:=by rw[hW0]; simp
 obtain⟨W,hW⟩:∃ W,W=W0.alloc (.cells #[.bool false,.string ⟨#[]⟩,.bool false,.string ⟨#[]⟩,.bool false,.string ⟨#[]⟩,.bool false,.string ⟨#[]⟩] 27):=⟨_,rfl⟩
 have hb0:Below w.heap.size w W0:=by rw[hW0]; exact br.alloc (Nat.le_refl _) _
 have hb1:Below W0.heap.size W0 W:=by rw[hW]; exact br.alloc (Nat.le_refl _) _
 have hb:=hb0.trans (hb1.mono hb0.size)
 obtain⟨e0,e1,_⟩:=new_two w u1 u2 61 (w1:=W) (by rw[←hW0]; exact hb1)
 have hlt:w.heap.size<W.heap.size:=by have:=hb1.size; omega
 have H1:=Lib.hid (EFrac_any a u1 A W (h1.below hb) hla)
 have H2:=Lib.hid (fun w' (h:Below W.heap.size W w')=>EFrac_any b u2 A w' ((h2.below hb).below h) hlb)
 rw[ea,←hk1] at H1
 rw[eb,←hk2] at H2
 have HK:=Lib.hid (And.intro (show k1=0↔ShortF a by rw[hk1]; exact outC_zero) (And.intro (show k2=0↔ShortF b by rw[hk2]; exact outC_zero) (And.intro ea eb)))
 have HV:=Lib.hid (And.intro (hW.trans (by rw[hW0])) (And.intro hb (fun w1 (h:Below W.heap.size W w1)=>And.intro (new_eight W0 _ _ _ _ _ _ _ _ _ (w1:=w1) (by rw[←hW]; exact h)) (frozen_eight W0 _ _ _ _ _ _ _ _ _ (w1:=w1) (by rw[←hW]; exact h)))))
 rw[hz0] at HV
 clear hk1 hk2 ea eb hW hW0 hz0 hb hb0 hb1 h1 h2
 go_enter Tryz.func64,Tryz.ntmps64
 go_wp2_with fail
 rw[←HV.out.1]
 refine H1.out.mono ?_
 rintro e w1 ⟨rfl,hb1⟩
 have e0:=(hb1.cell (p:=⟨w.heap.size,0,none⟩) hlt).trans e0
 have e1:=(hb1.cell (p:=⟨w.heap.size,1,none⟩) hlt).trans e1
 have hlt1:w.heap.size<w1.heap.size:=Nat.lt_of_lt_of_le hlt hb1.size
 have HB1:=Lib.hid hb1
 clear hb1
 go_wp2_with fail
 have hal:=(Below.refl w1.heap.size w1).alloc (Nat.le_refl _) (.cells #[.bool b1,.string t1,.bool b2,.string t2] 25)
 refine(H2.out _ (HB1.out.trans (hal.mono HB1.out.size))).mono ?_
 rintro e w3 ⟨rfl,hb3⟩
 obtain⟨g0,g1,g2,g3,_⟩:=new_four w1 _ _ _ _ _ hb3
 have hb13:=hal.trans (hb3.mono hal.size)
 have hbW3:=HB1.out.trans (hb13.mono HB1.out.size)
 obtain⟨⟨c0,c1,c2,c3,c4,c5,c6,c7⟩,f0,f1,f2,f3,f4,f5,f6,f7⟩:=HV.out.2.2 w3 hbW3
 have hne:w1.heap.size<w3.heap.size:=by have:=hb3.size; simp at this; omega
 have hn2:w.heap.size+1<w3.heap.size:=by omega
 have hF:=HV.out.2.1.trans (hbW3.mono HV.out.2.1.size)
 have HF:=Lib.hid hF
 have HO:=Lib.hid (fun(h:¬(ShortF a∧ShortF b))=>show zG=outG a b∧(4:Int)=outGC a b by unfold outG outGC; rw[if_neg h,if_neg h]; exact⟨rfl,rfl⟩)
 clear e0 e1 hb3 hal hb13 hbW3 hF H1 H2
 by_cases x1:k1=0
 ·by_cases x2:k2=0
  ·have HG:=Lib.hid (And.intro (outG_of (HK.out.1.1 x1) (HK.out.2.1.1 x2) HK.out.2.2.1 HK.out.2.2.2) (show outGC a b=0 by unfold outGC; rw[if_pos ⟨HK.out.1.1 x1,HK.out.2.1.1 x2⟩]))
   subst x1 x2
   go_wp2_with fail
   refine bodyPost_ret (v:=.tuple #[.agg #[.bool b1,.string t1,.bool b2,.string t2,.bool b3,.string t3,.bool b4,.string t4],.int .i64 0]) (by simp[results,Tryz.results64,go_sem,c0,c1,c2,c3,c4,c5,c6,c7,hn2,cell_alloc_lt]) rfl ⟨by rw[HG.out.1,HG.out.2],?_⟩
   exact Below.alloc ((((((((HF.out.setCell (p:=⟨w.heap.size+1,0,none⟩) (Nat.le_succ _) _).setCell (p:=⟨w.heap.size+1,1,none⟩) (Nat.le_succ _) _).setCell (p:=⟨w.heap.size+1,2,none⟩) (Nat.le_succ _) _).setCell (p:=⟨w.heap.size+1,3,none⟩) (Nat.le_succ _) _).setCell (p:=⟨w.heap.size+1,4,none⟩) (Nat.le_succ _) _).setCell (p:=⟨w.heap.size+1,5,none⟩) (Nat.le_succ _) _).setCell (p:=⟨w.heap.size+1,6,none⟩) (Nat.le_succ _) _).setCell (p:=⟨w.heap.size+1,7,none⟩) (Nat.le_succ _) _) (by simp only[setCell_size]; exact(HF.out.size)) _
  ·have hx2:(k2 != 0)=true:=by simpa using x2
   have HN:=Lib.hid (HO.out (fun h=>x2 (HK.out.2.1.2 h.2)))
   subst x1
   go_wp2_with fail
   refine bodyPost_ret (v:=.tuple #[zG,.int .i64 4]) (by unfold zG; simp[results,Tryz.results64,go_sem,c0,c1,c2,c3,c4,c5,c6,c7,hn2,cell_alloc_lt]) rfl ⟨by rw[HN.out.1,HN.out.2],?_⟩
   exact Below.alloc ((((((((HF.out.setCell (p:=⟨w.heap.size+1,0,none⟩) (Nat.le_succ _) _).setCell (p:=⟨w.heap.size+1,1,none⟩) (Nat.le_succ _) _).setCell (p:=⟨w.heap.size+1,2,none⟩) (Nat.le_succ _) _).setCell (p:=⟨w.heap.size+1,3,none⟩) (Nat.le_succ _) _).setCell (p:=⟨w.heap.size+1,4,none⟩) (Nat.le_succ _) _).setCell (p:=⟨w.heap.size+1,5,none⟩) (Nat.le_succ _) _).setCell (p:=⟨w.heap.size+1,6,none⟩) (Nat.le_succ _) _).setCell (p:=⟨w.heap.size+1,7,none⟩) (Nat.le_succ _) _) (by simp only[setCell_size]; exact(HF.out.size)) _
 ·have hx1:(k1 != 0)=true:=by simpa using x1
  have HN:=Lib.hid (HO.out (fun h=>x1 (HK.out.1.2 h.1)))
  go_wp2_with fail
  refine bodyPost_ret (v:=.tuple #[zG,.int .i64 4]) (by unfold zG; simp[results,Tryz.results64,go_sem,c0,c1,c2,c3,c4,c5,c6,c7,hn2,cell_alloc_lt]) rfl ⟨by rw[HN.out.1,HN.out.2],?_⟩
  exact Below.alloc ((((((((HF.out.setCell (p:=⟨w.heap.size+1,0,none⟩) (Nat.le_succ _) _).setCell (p:=⟨w.heap.size+1,1,none⟩) (Nat.le_succ _) _).setCell (p:=⟨w.heap.size+1,2,none⟩) (Nat.le_succ _) _).setCell (p:=⟨w.heap.size+1,3,none⟩) (Nat.le_succ _) _).setCell (p:=⟨w.heap.size+1,4,none⟩) (Nat.le_succ _) _).setCell (p:=⟨w.heap.size+1,5,none⟩) (Nat.le_succ _) _).setCell (p:=⟨w.heap.size+1,6,none⟩) (Nat.le_succ _) _).setCell (p:=⟨w.heap.size+1,7,none⟩) (Nat.le_succ _) _) (by simp only[setCell_size]; exact(HF.out.size)) _
def MayF(v:Value):Fact:=fun u w A=>(¬FracOk v∧u=.pointer none)∨∃ q,v=encF q∧FracOk v∧RatP q u w A
theorem MayF.keeps(v:Value):(MayF v).Keeps:=fun u w w' A A' hs hk h=>h.imp id (fun⟨q,e,f,h⟩=>⟨q,e,f,RatP.keeps q u w w' A A' hs hk h⟩)
theorem MayR.mayF{v u:Value}{w w':World}{A:Nat→Prop}(h:MayR v w.heap.size u w' NoA)(hb:Below w.heap.size w w')(hA:Rcv A w):MayF v u w' A:=by
 rcases h with h|⟨q,e,f,h⟩
 ·exact .inl h
 ·exact .inr ⟨q,e,f,(h.new hb (Nat.le_refl _)).2 A hA⟩
def NQ(z:QC):Fact:=NumO z.re z.im
theorem NQ.keeps(z:QC):(NQ z).Keeps:=NumO.keeps _ _
def GaussOk(v:Value):Prop:=∃ z:QC,v=encG z.re z.im∧ShortF z.re∧ShortF z.im
theorem gaussOk_iff{n1 n2 n3 n4:Bool}{s1 s2 s3 s4:ByteArray}:GaussOk (.agg #[.bool n1,.string s1,.bool n2,.string s2,.bool n3,.string s3,.bool n4,.string s4])↔FracOk (.agg #[.bool n1,.string s1,.bool n2,.string s2])∧FracOk (.agg #[.bool n3,.string s3,.bool n4,.string s4]):=by
 constructor
 ·rintro⟨z,e,h1,h2⟩
  unfold encG at e
  simp only[Value.agg.injEq,Array.mk.injEq,List.cons.injEq,Value.bool.injEq,Value.string.injEq,and_true] at e
  obtain⟨e1,e2,e3,e4,e5,e6,e7,e8⟩:=e
  subst e1 e2 e3 e4 e5 e6 e7 e8
  exact⟨⟨z.re,rfl,h1⟩,⟨z.im,rfl,h2⟩⟩
 ·rintro⟨⟨a,e1,h1⟩,⟨b,e2,h2⟩⟩
  obtain⟨rfl,rfl,rfl,rfl⟩:=encF_parts e1
  obtain⟨rfl,rfl,rfl,rfl⟩:=encF_parts e2
  exact⟨⟨a,b⟩,rfl,h1,h2⟩
end Go.Proofs.YtjlhiaafnpompaaGreat
