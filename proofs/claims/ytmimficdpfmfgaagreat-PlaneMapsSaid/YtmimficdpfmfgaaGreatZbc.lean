/- Laws for the walk. -/
import Derived.Test.YtmimficdpfmfgaaGreatZbb
set_option linter.unusedVariables false
set_option maxHeartbeats 4000000
namespace Go.Proofs.YtmimficdpfmfgaaGreat
open Go.RowKit Tr
def gws(l:List Nat):GF where
 R:=fun v w A=>WSlA A w v l
 int:=false
 keeps:=fun v w w' A A' hs hk h=>WSlA.keep hs hk h
 cell:=fun v w A h=>by obtain⟨p,cap,rfl,_⟩:=h; rfl
 noint:=fun _ v w A h k x=>by obtain⟨p,cap,rfl,_⟩:=h; simp
 ex:=none
 exact:=fun u e=>by cases e
def rq(q:Rat):List GF:=[gl (.bool (decide (q.num<0))),gws (words q.num.natAbs),gl (.bool false),gws (words q.den)]
def RC(L:List GF)(cs:List AC)(q:Rat):Prop:=acsK L cs=some (rq q)∨cs=zRA∧q=0
theorem noW_rat(b:Bool)(s1 s2:Value){w:World}{l1 l2:List Nat}(h1:WSl w s1 l1)(h2:WSl w s2 l2)(T:TypeId):NoW (.cells #[.bool b,s1,.bool false,s2] T (0,0)):=by
 obtain⟨p,c,rfl,_⟩:=h1
 obtain⟨p2,c2,rfl,_⟩:=h2
 intro cs T' fr e i k x hx
 cases e
 match i,hx with
 | 0,hx=>simp at hx
 | 1,hx=>simp at hx
 | 2,hx=>simp at hx
 | 3,hx=>simp at hx
 | i+4,hx=>simp at hx
theorem rq_cells{q:Rat}{vs:List Value}{w:World}{A:Nat→Prop}(h:okg (rq q) vs w A):∃ s1 s2,vs=[.bool (decide (q.num<0)),s1,.bool false,s2]∧WSlA A w s1 (words q.num.natAbs)∧WSlA A w s2 (words q.den):=by
 match vs,h with
 | [a,b,c,d],⟨h1,h2,h3,h4,_⟩ =>
  have h1:a=.bool (decide (q.num<0)):=h1
  have h3:c=.bool false:=h3
  subst h1; subst h3
  exact⟨b,d,rfl,h2,h4⟩
theorem rq_rat{q:Rat}{w:World}{A:Nat→Prop}{n:Nat}{s1 s2:Value}{T:TypeId}(hn:w.heap[n]?=some (.cells #[.bool (decide (q.num<0)),s1,.bool false,s2] T (0,0)))(hA:¬A n)(h1:WSlA A w s1 (words q.num.natAbs))(h2:WSlA A w s2 (words q.den)):RatP q (.pointer (some ⟨n,0,none⟩)) w A:=by
 have hlt:=(Array.getElem?_eq_some_iff.1 hn).1
 refine⟨n,rfl,⟨n,0,s1,rfl,hlt,hA,by simp[World.cell?,hn],by simp[World.cell?,hn],h1⟩,.inl ⟨n,2,s2,rfl,hlt,hA,?_,by simp[World.cell?,hn],h2⟩⟩
 have:decide ((q.den:Int)<0)=false:=by simp
 rw[this]; simp[World.cell?,hn]
theorem WSlA.sub{A B:Nat→Prop}{w:World}{v:Value}{l:List Nat}(h:WSlA A w v l)(hs:∀ n,B n→A n):WSlA B w v l:=WSlA.keep (Nat.le_refl _) (fun b _ hb=>⟨rfl,fun h=>hb (hs b h)⟩) h
theorem RC.rat{L:List GF}{cs:List AC}{q:Rat}(h:RC L cs q){σ:Sg}{w:World}{A:Nat→Prop}{n:Nat}{vs:List Value}{T:TypeId}(hn:w.heap[n]?=some (.cells vs.toArray T (0,0)))(ho:oks (gT L) σ cs vs w A) :
  RatP q (.pointer (some ⟨n,0,none⟩)) w NoA∧vs.length=4∧NoW (.cells vs.toArray T (0,0)):=by
 rcases h with h|⟨rfl,rfl⟩
 ·obtain⟨s1,s2,rfl,h1,h2⟩:=rq_cells ((acsK_ok h).1 ho)
  exact⟨rq_rat hn (fun h=>h) (h1.sub (fun _ h=>h.elim)) (h2.sub (fun _ h=>h.elim)),rfl,noW_rat _ _ _ h1.wsl h2.wsl T⟩
 ·have e2:vs=[.bool false,.slice none 0 0,.bool false,.slice none 0 0]:=by
   match vs,ho with
   | [a,b,c,d],⟨k1,k2,k3,k4,_⟩=>cases k1; cases k2; cases k3; cases k4; rfl
  subst e2
  have hlt:=(Array.getElem?_eq_some_iff.1 hn).1
  have hz:∀ A,WSlA A w (.slice none 0 0) (words (0:Int).natAbs):=fun A=>by
   rw[show words (0:Int).natAbs=[] from words_eq_nil.2 rfl]
   exact⟨none,0,rfl,Nat.le_refl _,fun h=>absurd rfl h⟩
  refine⟨⟨n,rfl,⟨n,0,_,rfl,hlt,fun h=>h,by simp[World.cell?,hn],by simp[World.cell?,hn],hz _⟩,.inr ⟨rfl,⟨n,2,_,rfl,hlt,fun h=>h,by simp[World.cell?,hn],by simp[World.cell?,hn],hz _⟩⟩⟩,rfl,?_⟩
  intro cs T' fr e i k x hx
  cases e
  match i,hx with
  | 0,hx=>simp at hx
  | 1,hx=>simp at hx
  | 2,hx=>simp at hx
  | 3,hx=>simp at hx
  | i+4,hx=>simp at hx
theorem PutR.cells{m:Nat}{q:Rat}{w w':World}(h:PutR m q w w'){A:Nat→Prop}(hA:Rcv A w):∃ us:List Value,w'.heap[m]?=some (.cells us.toArray 232 (0,0))∧okg (rq q) us w' A:=by
 obtain⟨h1,s1,s2,h2,h3,h4⟩:=h
 have hA':Rcv A w':=fun b hb=>by
  by_cases e:b=m
  ·subst e; exact⟨_,h2,noW_rat _ _ _ h3 h4 _⟩
  ·obtain⟨zz,k1,k2⟩:=hA b hb
   exact⟨zz,(h1.block b (Array.getElem?_eq_some_iff.1 k1).1 e).trans k1,k2⟩
 exact⟨_,h2,rfl,h3.avoids hA',rfl,h4.avoids hA',trivial⟩
theorem RL_z1:RL (0:Rat) 1:=⟨by decide +kernel,by decide +kernel⟩
theorem RL_quo{x y:Rat}(h0:y≠0){k l:Nat}(hx:RL x k)(hy:RL y l):RL (x / y) (k+l):=by rw[Rat.div_def]; exact RL_mul hx (RL_inv h0 hy)
def gvQuo{L:List GF}(x y:Rat)(h0:y≠0){k l:Nat}(hx:RL x k)(hy:RL y l)(hb:k+l<137438953472)(b:Nat)(ax ay:AR)(res:AC)(ha:arsK L [ax,ay]=some [.c (gr x),.c (gr y)]:=by kernel_rfl)(hr:res.lk L=some (gr (x / y)):=by kernel_rfl):GC Tryz.prog L true :=
 giveR eo214 b [ax,ay] res (x / y) [.c (gr x),.c (gr y)] (fun m C w A vs hA hm h4 hC hu=>by
  match vs,hu with
  | [v,v'],hu=>exact RQuo_any m C x y v v' A w hm h4 hC hu.1 hu.2.1 k l hx hy hb h0) ha hr
def putR{L:List GF}{f:FuncId}(ent:Tr.Enters Tryz.prog f)(b:Nat)(cs:List AC)(self:Bool)(args:List AR)(cs':List AC)(x q:Rat)(fa:List FR)(hc:RC L cs x)
  (h:∀(m:Nat) (C:Array Value) (w:World) (A:Nat→Prop) (vs:List Value),Rcv A w→w.heap[m]?=some (.cells C 232 (0,0))→C.size=4→NoW (.cells C 232 (0,0))→RatP x (.pointer (some ⟨m,0,none⟩)) w NoA→okf fa vs w A →
   Calls Tryz.prog f (.pointer (some ⟨m,0,none⟩) :: (if self then .pointer (some ⟨m,0,none⟩) :: vs else vs)).toArray w fun e w'=>e=.returned (.pointer (some ⟨m,0,none⟩))∧PutR m q w w')
  (ha:arsK L args=some fa:=by kernel_rfl) (hr:acsK L cs'=some (rq q):=by kernel_rfl):GC Tryz.prog L true :=
 ⟨{ f,args:=.c (.own b 0) :: (if self then .c (.own b 0) :: args else args),res:=.r (.c (.own b 0)),needs:=[(b,⟨cs,232,none⟩)],put:=some (b,⟨cs',232,none⟩) },ent,fun σ w A us hR hA hu hn n hσ hAn=>by
  have e0:∃ vs,us=.pointer (some ⟨n,0,none⟩) :: (if self then .pointer (some ⟨n,0,none⟩) :: vs else vs)∧okr (gT L) σ args vs w A:=by
   have own:∀ v,(AR.c (.own b 0)).ok (gT L) σ v w A→v=.pointer (some ⟨n,0,none⟩):=fun v hv=>by
    obtain⟨m,h1,rfl⟩:=hv
    have h1:some m=some n:=h1.symm.trans hσ
    cases h1; rfl
   cases self
   ·match us,hu with
    | u :: us,hu=>exact⟨us,by rw[own u hu.1]; rfl,hu.2⟩
   ·match us,hu with
    | u :: v :: us,hu=>exact⟨us,by rw[own u hu.1,own v hu.2.1]; rfl,hu.2.2⟩
  obtain⟨vs,rfl,hv⟩:=e0
  obtain⟨⟨n1,ws,h1,_,h2,h3⟩,_⟩:=hn
  have e1:n1=n:=by
   have:some n1=some n:=h1.symm.trans hσ
   cases this; rfl
  subst e1
  obtain⟨k1,k2,k3⟩:=hc.rat h2 h3
  refine(h n1 _ w A vs (hR rfl) h2 (by simpa using k2) k3 k1 ((arsK_ok ha).1 hv)).mono ?_
  rintro e w' ⟨rfl,hp⟩
  obtain⟨us,p1,p2⟩:=hp.cells (hR rfl)
  exact⟨_,rfl,⟨n1,hσ,rfl⟩,hp.1,us,p1,(acsK_ok hr).2 p2⟩⟩
def frR{L:List GF}(key:Nat)(cs:List AC)(q:Rat)(i:Nat){f:FuncId}(ent:Tr.Enters Tryz.prog f)(hc:acsK L cs=some (rq q):=by kernel_rfl)(hi:AC.lk L (.sym i)=some (gr q):=by kernel_rfl):GC Tryz.prog L true :=
 ⟨{ f,args:=[],res:=.r (.c (.sym i)),frz:=some (key,⟨cs,232,none⟩) },ent,fun σ w A n vs hR hn ho=>by
  obtain⟨s1,s2,rfl,h1,h2⟩:=rq_cells ((acsK_ok hc).1 ho)
  exact(AC.lk_ok (σ:=σ) (x:=.sym i) hi).2 (rq_rat hn (fun h=>h.2 rfl) (h1.sub (fun _ h=>h.1)) (h2.sub (fun _ h=>h.1)))⟩
def Qcr{L:List GF}{f:FuncId}(ent:Tr.Enters Tryz.prog f):GC Tryz.prog L true :=
 ⟨{ f,args:=[],res:=.junk,frz:=some (1000000,⟨[],0,none⟩) },ent,fun _ _ _ _ _ _ _ _=>trivial⟩
section
variable{L:List GF}
def puAdd(x y:Rat){k l:Nat}(hx:RL x k)(hy:RL y l)(hb:k+l<137438953472)(b:Nat)(cs:List AC)(ay:AR)(cs':List AC)(hc:RC L cs x)(ha:arsK L [ay]=some [.c (gr y)]:=by kernel_rfl)(hr:acsK L cs'=some (rq (x+y)):=by kernel_rfl):GC Tryz.prog L true :=
 putR eo186 b cs true [ay] cs' x (x+y) [.c (gr y)] hc (fun m C w A vs hA hm h4 hC hx' hu=>by
  match vs,hu with
  | [v],hu=>exact RAdd_any m C x y _ v NoA w hm h4 hC hx' hu.1.noA k l hx hy hb) ha hr
def puNeg(x:Rat)(hx:RL x 137438953472)(b:Nat)(cs cs':List AC)(hc:RC L cs x)(hr:acsK L cs'=some (rq (-x)):=by kernel_rfl):GC Tryz.prog L true :=
 putR eo187 b cs true [] cs' x (-x) [] hc (fun m C w A vs hA hm h4 hC hx' hu=>by
  match vs,hu with
  | [],_=>exact RNeg_any m C x _ NoA w hm h4 hC hx' hx) rfl hr
end
end Go.Proofs.YtmimficdpfmfgaaGreat
namespace Go.Proofs.YtmimficdpfmfgaaGreat
open Go.RowKit Tr
theorem sign_lt0{q:Rat}(hq:q<0):decide (q.num<0)=true:=by
 have:=mt Rat.num_nonneg.1 (Rat.not_le.2 hq)
 exact decide_eq_true (by omega)
theorem sign_ge0{q:Rat}(hq:0≤q):decide (q.num<0)=false:=by
 have:=Rat.num_nonneg.2 hq
 exact decide_eq_false (by omega)
set_option maxRecDepth 100000 in
theorem root_neg(q:Rat)(hq:q<0)(vx:Value)(A:Nat→Prop)(w:World)(hx:RatP q vx w A) :
  Calls Tryz.prog 192 #[vx] w fun e w'=>e=.returned (.tuple #[.pointer none,.bool false])∧Below w.heap.size w w':=by
 have hs:=sign_lt0 hq
 have HS:=Lib.hid (RSign_any q vx A w hx)
 obtain⟨b,rfl⟩:=hx.shape
 go_enter Tryz.func192,Tryz.ntmps192
 go_wp2_with fail
 refine HS.out.mono ?_
 rintro e w' ⟨rfl,rfl⟩
 go_wp2_with fail
 refine bodyPost_ret (v:=.tuple #[.pointer none,.bool false]) (by simp[results,Tryz.results192,go_sem]) rfl ?_
 exact⟨rfl,Below.refl _ _⟩
set_option maxRecDepth 100000 in
theorem root_pos(q:Rat)(hq:0≤q)(R D:Nat)(r1:R*R≤q.num.natAbs)(r2:q.num.natAbs<(R+1)*(R+1))(d1:D*D≤q.den)(d2:q.den<(D+1)*(D+1))(hD:D≠0)(r:Bool)(hr:r=true↔Rat.divInt R D*Rat.divInt R D=q)
  (vx:Value) (A:Nat→Prop) (w:World) (hx:RatP q vx w A) (hA:Rcv A w) (k:Nat) (hl:RL q k) (hk:k≤134217728) :
  Calls Tryz.prog 192 #[vx] w fun e w'=>∃ m,e=.returned (.tuple #[.pointer (some ⟨m,0,none⟩),.bool r])∧Below w.heap.size w w'∧RatB w.heap.size (Rat.divInt R D) (.pointer (some ⟨m,0,none⟩)) w' A:=by
 have hs:=sign_ge0 hq
 have HS:=Lib.hid (RSign_any q vx A w hx)
 obtain⟨b,rfl⟩:=hx.shape
 have lR:(words R).length≤k:=wl_mono (Nat.le_trans (Nat.le_mul_self R) r1) hl.1
 have lD:(words D).length≤k:=wl_mono (Nat.le_trans (Nat.le_mul_self D) d1) hl.2
 have HX:=Lib.hid (And.intro hx hA)
 have HQ:=Lib.hid (And.intro (Int.natAbs_of_nonneg (Rat.num_nonneg.2 hq)) (And.intro hl hr))
 clear hx hA hr hq hl
 go_enter Tryz.func192,Tryz.ntmps192
 go_wp2_with fail
 refine HS.out.mono ?_
 rintro e w' ⟨rfl,rfl⟩
 go_wp2_with fail
 obtain⟨w1,hw1⟩:∃ w1,w1=w.alloc (.cells #[.bool false,.slice none 0 0] 230):=⟨_,rfl⟩
 have hb1:Below w.heap.size w w1:=by rw[hw1]; exact br.alloc (Nat.le_refl _) _
 have hs1:w1.heap.size=w.heap.size+1:=by rw[hw1]; simp
 have hn1:w1.heap[w.heap.size]?=some (.cells #[.bool false,.slice none 0 0] 230 (0,0)):=by rw[hw1]; exact heap_alloc_new w _
 rw[←hw1]
 have H1:=Lib.hid (And.intro hw1 (And.intro hb1 hn1))
 clear hw1 hb1 hn1
 refine(Num_any q _ A w1 (HX.out.1.below H1.out.2.1) (HQ.out.2.1.mono (by omega))).mono ?_
 rintro e w2 ⟨v2,rfl,hv2⟩
 have H2:=Lib.hid hv2
 clear hv2
 go_wp2_with fail
 have hm2:w2.heap[w.heap.size]?=some (.cells #[.bool false,.slice none 0 0] 230 (0,0)):=(H2.out.1.block _ (by omega)).trans H1.out.2.2
 have hi2:IntP (q.num.natAbs:Int) v2 w2 NoA:=by rw[HQ.out.1]; exact H2.out.2 NoA (rcv_noA _)
 refine(Sqrt_any w.heap.size 0 _ _ q.num.natAbs R r1 r2 v2 NoA w2 hm2 (by decide) noW_zInt hi2 (by have:=HQ.out.2.1.1; omega)).mono ?_
 rintro e w3 ⟨rfl,hp3⟩
 have hs2:=H2.out.1.size
 have hb3:Below w.heap.size w w3:=H1.out.2.1.trans ((H2.out.1.mono (by omega)).trans (hp3.1.below (Nat.le_refl _) (by omega)))
 have h3:IntP (R:Int) (.pointer (some ⟨w.heap.size,0,none⟩)) w3 NoA:=(hp3.intP (by decide) (rcv_noA _)).noA
 have hs3:=hp3.1.size
 have H3:=Lib.hid (And.intro hb3 h3)
 clear hp3 hm2 hi2 hb3 h3
 go_wp2_with fail
 obtain⟨w4,hw4⟩:∃ w4,w4=w3.alloc (.cells #[.bool false,.slice none 0 0] 230):=⟨_,rfl⟩
 have hb4:Below w3.heap.size w3 w4:=by rw[hw4]; exact br.alloc (Nat.le_refl _) _
 have hs4:w4.heap.size=w3.heap.size+1:=by rw[hw4]; simp
 have hn4:w4.heap[w3.heap.size]?=some (.cells #[.bool false,.slice none 0 0] 230 (0,0)):=by rw[hw4]; exact heap_alloc_new w3 _
 rw[←hw4]
 have H4:=Lib.hid (And.intro hw4 (And.intro hb4 hn4))
 clear hw4 hb4 hn4
 have hbw4:=H3.out.1.trans (H4.out.2.1.mono (by omega))
 refine(Denom_any q _ A w4 (HX.out.1.below hbw4) (HQ.out.2.1.mono (by omega))).mono ?_
 rintro e w5 ⟨v5,rfl,hv5⟩
 have H5:=Lib.hid hv5
 clear hv5 hbw4
 go_wp2_with fail
 have hm5:w5.heap[w3.heap.size]?=some (.cells #[.bool false,.slice none 0 0] 230 (0,0)):=(H5.out.1.block _ (by omega)).trans H4.out.2.2
 refine(Sqrt_any w3.heap.size 0 _ _ q.den D d1 d2 v5 NoA w5 hm5 (by decide) noW_zInt (H5.out.2 NoA (rcv_noA _)) (by have:=HQ.out.2.1.2; omega)).mono ?_
 rintro e w6 ⟨rfl,hp6⟩
 have hs5:=H5.out.1.size
 have hb6:Below w3.heap.size w3 w6:=H4.out.2.1.trans ((H5.out.1.mono (by omega)).trans (hp6.1.below (Nat.le_refl _) (by omega)))
 have h6:IntP (D:Int) (.pointer (some ⟨w3.heap.size,0,none⟩)) w6 NoA:=(hp6.intP (by decide) (rcv_noA _)).noA
 have hs6:=hp6.1.size
 have H6:=Lib.hid (And.intro hb6 (And.intro h6 (H3.out.2.below hb6)))
 clear hp6 hm5 hb6 h6
 go_wp2_with fail
 obtain⟨w7,hw7⟩:∃ w7,w7=w6.alloc zR:=⟨_,rfl⟩
 have hb7:Below w6.heap.size w6 w7:=by rw[hw7]; exact br.alloc (Nat.le_refl _) _
 have hs7:w7.heap.size=w6.heap.size+1:=by rw[hw7]; simp
 have hn7:w7.heap[w6.heap.size]?=some zR:=by rw[hw7]; exact heap_alloc_new w6 _
 rw[←hw7]
 have H7:=Lib.hid (And.intro hw7 (And.intro hb7 hn7))
 clear hw7 hb7 hn7
 refine(SetFrac_any w6.heap.size _ R D (by omega) _ _ NoA w7 H7.out.2.2 (by decide) noW_zRat (H6.out.2.2.below H7.out.2.1) (H6.out.2.1.below H7.out.2.1) (by rw[Int.natAbs_natCast]; omega) (by rw[Int.natAbs_natCast]; omega)).mono ?_
 rintro e w8 ⟨rfl,hp8⟩
 have hs8:=hp8.1.size
 have hb8:Below w.heap.size w w8:=H3.out.1.trans ((H6.out.1.mono (by omega)).trans ((H7.out.2.1.mono (by omega)).trans (hp8.1.below (by omega) (by omega))))
 have hA8:Rcv A w7:=HX.out.2.below (H3.out.1.trans ((H6.out.1.mono (by omega)).trans (H7.out.2.1.mono (by omega))))
 have h8:RatB w.heap.size (Rat.divInt R D) (.pointer (some ⟨w6.heap.size,0,none⟩)) w8 A:=RatB.keeps _ _ _ _ _ _ _ (Nat.le_refl _) (fun b _ hna=>⟨rfl,fun h=>hna (.inr h)⟩) (hp8.ratB hA8 (rcv_noA _) (by omega) (fun b hb=>HX.out.2.lt hb))
 have H8:=Lib.hid (And.intro hb8 (And.intro h8 (hp8.ratP (rcv_noA _)).noA))
 clear hp8 hb8 h8 hA8
 go_wp2_with fail
 have lS:RL (Rat.divInt R D) k:=RL_divInt (by omega) (by rw[Int.natAbs_natCast]; exact lR) (by rw[Int.natAbs_natCast]; exact lD)
 refine(emul_any (Rat.divInt R D) (Rat.divInt R D) _ _ NoA w8 (.inr H8.out.2.2) (.inr H8.out.2.2) (rcv_noA _) k k lS lS (by omega)).mono ?_
 rintro e w10 ⟨u10,rfl,hb10,hp10⟩
 have H10:=Lib.hid (And.intro hb10 hp10)
 clear hp10 hb10
 go_wp2_with fail
 obtain⟨cz,hcz,hcr⟩:∃ cz,cz=cmpR (Rat.divInt R D*Rat.divInt R D) q∧(cz == 0)=r:=by
  refine⟨_,rfl,?_⟩
  rw[Bool.eq_iff_iff,HQ.out.2.2,beq_iff_eq]
  unfold cmpR
  constructor
  ·intro h
   split at h
   ·cases h
   ·split at h
    ·assumption
    ·cases h
  ·intro h
   rw[h,if_neg (Rat.lt_irrefl),if_pos rfl]
 have hc:=RCmp_any (Rat.divInt R D*Rat.divInt R D) q _ _ NoA w10 H10.out.2 (HX.out.1.below (H8.out.1.trans (H10.out.1.mono H8.out.1.size))).noA (k+k) k (RL_mul lS lS) HQ.out.2.1 (by omega)
 rw[←hcz] at hc
 have HC:=Lib.hid (And.intro hc hcr)
 clear hc hcz hcr
 refine HC.out.1.mono ?_
 rintro e w11 ⟨rfl,hb11⟩
 have H11:=Lib.hid hb11
 clear hb11
 go_wp2_with fail
 rw[HC.out.2]
 refine bodyPost_ret (v:=.tuple #[.pointer (some ⟨w6.heap.size,0,none⟩),.bool r]) (by simp[results,Tryz.results192,go_sem]) rfl ?_
 have hb11:=H10.out.1.trans (H11.out.mono H10.out.1.size)
 exact⟨_,rfl,H8.out.1.trans (hb11.mono H8.out.1.size),Fact.Keeps.below (RatB.keeps _ _) hb11 H8.out.2.1⟩
theorem root_any(q:Rat)(r:Bool)(hr:r=true↔HasR q)(vx:Value)(A:Nat→Prop)(w:World)(hx:RatP q vx w A)(hA:Rcv A w)(k:Nat)(hl:RL q k)(hk:k≤134217728) :
  Calls Tryz.prog 192 #[vx] w fun e w'=>∃ u,e=.returned (.tuple #[u,.bool r])∧Below w.heap.size w w'∧(r=true→RatB w.heap.size (sqr q) u w' A):=by
 by_cases h0:0≤q
 ·obtain⟨R,r1,r2⟩:=root_ex q.num.natAbs
  obtain⟨D,d1,d2⟩:=root_ex q.den
  obtain⟨e1,e2,e3⟩:=sqr_roots h0 r1 r2 d1 d2
  refine(root_pos q h0 R D r1 r2 d1 d2 e2 r (hr.trans ⟨fun h=>?_,fun h=>⟨_,Rat.divInt_nonneg (Int.natCast_nonneg R) (Int.natCast_nonneg D),h⟩⟩) vx A w hx hA k hl hk).mono ?_
  ·rw[←(e3 h).1]; exact(sqr_ok h).2
  ·rintro e w' ⟨m,rfl,hb,h1⟩
   exact⟨_,rfl,hb,fun h=>by rw[(e3 (hr.1 h)).1]; exact h1⟩
 ·have hn:¬HasR q:=fun⟨s,h2,h3⟩=>h0 (h3▸Rat.mul_nonneg h2 h2)
  have e:r=false:=by cases r; rfl; exact absurd (hr.1 rfl) hn
  subst e
  exact(root_neg q (Rat.not_le.1 h0) vx A w hx).mono fun e w' ⟨h1,h2⟩=>⟨_,h1,h2,fun h=>by cases h⟩
end Go.Proofs.YtmimficdpfmfgaaGreat
namespace Tr
theorem RL.upby{q:Rat}{n:Nat}(h:RL q n)(j:Nat):RL q (n+j):=h.mono (by omega)
end Tr
namespace Go.Proofs.YtmimficdpfmfgaaGreat
open Go.RowKit Tr
theorem ZL.upby{z:QC}{n:Nat}(h:ZL z n)(j:Nat):ZL z (n+j):=h.mono (by omega)
theorem ratB_P{base:Nat}{q:Rat}{v:Value}{w:World}{A:Nat→Prop}(h:RatB base q v w A):RatP q v w A:=by
 obtain⟨_,_,_,_,_,_,_,_,h⟩:=h; exact h
theorem pRCmpK(x y:Rat)(v:Int){m l:Nat}(hx:RL x m)(hy:RL y l)(hb:m+l<137438953472)(h:cmpR x y=v):Qae Tryz.prog true 149 [.c (gr x),.c (gr y)] (.r (.c (gl (.int .i64 v)))):=by
 subst h; exact pRCmp x y hx hy hb
theorem RL_k(q:Rat)(n:Nat)(h:(decide ((words q.num.natAbs).length≤n) && decide ((words q.den).length≤n))=true):RL q n:=by
 simp only[Bool.and_eq_true,decide_eq_true_eq] at h
 exact h
theorem Qba(z:QC)(n:Nat)(h:(decide ((words z.re.num.natAbs).length≤n) && decide ((words z.re.den).length≤n) && (decide ((words z.im.num.natAbs).length≤n) && decide ((words z.im.den).length≤n)))=true):ZL z n:=by
 simp only[Bool.and_eq_true,decide_eq_true_eq] at h
 exact⟨h.1,h.2⟩
theorem Qbp{a b:Rat}{k:Nat}(h:RL a k)(h':RL b k):ZL (⟨a,b⟩:QC) k:=⟨h,h'⟩
section
variable{f:FuncId}{x y:Rat}{r:FV}
theorem argOR(h:Qae Tryz.prog true f [.c (gro x),.c (gro y)] r):Qae Tryz.prog true f [.c (gro x),.c (gr y)] r :=
 ⟨h.ent,fun w A vs hR hA hu=>by
  match vs,hu with
  | [a,b],hu=>exact h.ok w A [a,b] hR hA ⟨hu.1,.inr hu.2.1,trivial⟩⟩
theorem argRR(h:Qae Tryz.prog true f [.c (gro x),.c (gro y)] r):Qae Tryz.prog true f [.c (gr x),.c (gr y)] r :=
 ⟨h.ent,fun w A vs hR hA hu=>by
  match vs,hu with
  | [a,b],hu=>exact h.ok w A [a,b] hR hA ⟨.inr hu.1,.inr hu.2.1,trivial⟩⟩
end
theorem outF_short{q:Rat}(h:Qaw q){w:World}{A:Nat→Prop}:FV.R (.tup [.row (rF q),.c (gl (.int .i64 0))]) (.tuple #[outF q,.int .i64 (outC q)]) w A:=by
 refine(FV.val_ok (u:=.tuple #[encF q,.int .i64 0]) (by kernel_rfl)).2 ?_
 rw[outF,outC,if_pos h,if_pos h]
theorem pEFrac(q:Rat)(hq:RL q 137438953472)(h:Qaw q):Qae Tryz.prog true 120 [.c (gr q)] (.tup [.row (rF q),.c (gl (.int .i64 0))]) :=
 spec1 eo120 fun w A u hR _ hu=>(EFrac_any q u A w (.inr hu) hq).mono fun e w' h1=>⟨_,h1.1,outF_short h,h1.2⟩
theorem pERat(q:Rat)(h:Qaw q):Qae Tryz.prog true 148 [.row (rF q)] (.r (.c (gr q))) :=
 spec1 eo148 fun w A u hR hA hu=>by
  rw[(FR.val_ok (u:=encF q) (x:=.row (rF q)) (by kernel_rfl)).1 hu]
  refine(ERat_any _ _ _ _ (Nat.lt_of_le_of_lt h.1 (by decide)) (Nat.lt_of_le_of_lt h.2 (by decide)) w).mono ?_
  rintro e w' ⟨v,h1,h2,h3⟩
  rcases h2 with⟨h2,_⟩|⟨q',e2,_,h2⟩
  ·exact absurd ⟨q,rfl,h.1,h.2⟩ h2
  ·have h6:q=q':=Qch e2
   subst h6
   exact⟨_,h1,(h2.new h3 (Nat.le_refl _)).2 A (hR rfl),h3⟩
theorem pEReal(q:Rat):Qae Tryz.prog true 126 [.c (gr q)] (.r (.row (cn (⟨q,0⟩:QC)))):=by
 have k:Qae Tryz.prog true 126 [.c (gr q)] (.r (.row [gr q,gl .nilp])) :=
  Qam (L:=[gr q]) tys_ok mixed [] [] [] Tryz.func126 eo126 2000 [.c (.sym 0)] (.r (.row [.sym 0,.lit .nilp]))
 exact⟨k.ent,fun w A vs hR hA hu=>(k.ok w A vs hR hA hu).mono fun r w' ⟨v,h1,h2,h3⟩=>⟨v,h1,by
  obtain⟨us,rfl,h2⟩:=h2
  match us,h2 with
  | [a,b],h2=>exact⟨[a,b],rfl,.inr h2.1,.inl ⟨h2.2.1,rfl⟩,trivial⟩,h3⟩⟩
theorem Qbu(q:Rat)(v:Int)(h:q.num.sign=v):Qae Tryz.prog false 78 [.c (gr q)] (.r (.c (gl (.int .i64 v)))):=by
 subst h; exact Qao q
theorem pERoot(q:Rat)(hq:RL q 134217728)(h:HasR q):Qae Tryz.prog true 192 [.c (gr q)] (.tup [.c (gr (sqr q)),.c (gl (.bool true))]) :=
 spec1 eo192 fun w A u hR hA hu=>by
  refine(root_any q true ⟨fun _=>h,fun _=>rfl⟩ u A w hu (hR rfl) 134217728 hq (Nat.le_refl _)).mono ?_
  rintro e w' ⟨v,rfl,hb,h1⟩
  exact⟨_,rfl,⟨[v,.bool true],rfl,ratB_P (h1 rfl),rfl,trivial⟩,hb⟩
theorem pERootK(q r:Rat)(hq:RL q 134217728)(h0:0≤r)(h:r*r=q):Qae Tryz.prog true 192 [.c (gr q)] (.tup [.c (gr r),.c (gl (.bool true))]):=by
 have k:=pERoot q hq ⟨r,h0,h⟩
 rw[show sqr q=r from(sqr_eq h0 h).2] at k
 exact k
theorem Qbv(x y:Rat)(hx:RL x 134217728)(hy:RL y 134217728):Qae Tryz.prog false 140 [F1 x,F1 y] (.r (F1 (x - y))):=Qau eo140 (fminus x y hx hy) (by kernel_rfl) (by kernel_rfl)
theorem rfNeg(x:Rat):Qae Tryz.prog false 144 [F1 x] (.r (F1 (-x))):=Qau eo144 (fneg x) (by kernel_rfl) (by kernel_rfl)
theorem rfSmall(n d:Int)(q:Rat)(h1:-9223372036854775808≤n)(h2:n<9223372036854775808)(h3:-9223372036854775808≤d)(h4:d<9223372036854775808)(h0:d≠0)(hq:Rat.divInt n d=q):Qae Tryz.prog false 69 [.c (gx (.int .i64 n)),.c (gx (.int .i64 d))] (.r (F1 q)):=by
 subst hq
 exact Qau eo69 (fsmall n d h1 h2 h3 h4 h0) (by kernel_rfl) (by kernel_rfl)
theorem rGNeg(z:QC):Qae Tryz.prog false 164 [G1 z] (.r (G1 (ng z))):=Qau eo164 (gneg z) (by kernel_rfl) (by kernel_rfl)
theorem run_eql_b4(w:World)(n m:Bool)(s1 s2 t1 t2:ByteArray)(r:Bool)(hr:r=true↔(n=m∧s1=t1∧s2=t2)) :
  (binOp .eql 26 (.agg #[.bool n,.string s1,.bool false,.string s2]) (.agg #[.bool m,.string t1,.bool false,.string t2])).run Tryz.prog w=.ok (.bool r) w:=by
 go_simp
 simp only[toL_iff]
 cases r
 ·have hn:¬(n=m∧s1=t1∧s2=t2):=fun h=>by cases hr.2 h
  repeat' split
  all_goals first
   | rfl
   | (exfalso; apply hn; refine⟨?_,?_,?_⟩<;>assumption)
 ·obtain⟨rfl,rfl,rfl⟩:=hr.1 rfl
  simp
theorem run_eql_rf(w:World)(p q:Rat)(r:Bool)(hr:r=true↔p=q):(binOp .eql 26 (encF p) (encF q)).run Tryz.prog w=.ok (.bool r) w :=
 run_eql_b4 w _ _ _ _ _ _ r (hr.trans ⟨fun h=>by subst h; exact⟨rfl,rfl,rfl⟩,fun h=>Qch (by unfold encF; rw[h.1,h.2.1,h.2.2])⟩)
def bF{L:List GF}(x y:AR)(p q:Rat)(r:Bool)(hr:r=true↔p=q)(hx:x.gv L=some (encF p):=by kernel_rfl)(hy:y.gv L=some (encF q):=by kernel_rfl):GB Tryz.prog L :=
 gb .eql 26 x y (.lit (.bool r)) (agg_eql (by kernel_rfl) (fun w=>run_eql_rf w p q r hr)) hx hy rfl
def cirV(a b c d:Rat):Value:=.agg #[.bool (decide (a.num<0)),.string (strN a.num.natAbs),.bool false,.string (strN a.den),.bool (decide (b.num<0)),.string (strN b.num.natAbs),.bool false,.string (strN b.den),
 .bool (decide (c.num<0)),.string (strN c.num.natAbs),.bool false,.string (strN c.den),.bool (decide (d.num<0)),.string (strN d.num.natAbs),.bool false,.string (strN d.den)]
theorem run_eql_rc(w:World)(a b c d:Rat):(binOp .eql 47 (cirV a b c d) (cirV a b c d)).run Tryz.prog w=.ok (.bool true) w:=by
 unfold cirV
 go_simp
def bCt{L:List GF}(x y:AR)(a b c d:Rat)(hx:x.gv L=some (cirV a b c d):=by kernel_rfl)(hy:y.gv L=some (cirV a b c d):=by kernel_rfl):GB Tryz.prog L :=
 gb .eql 47 x y (.lit (.bool true)) (agg_eql (by kernel_rfl) (fun w=>run_eql_rc w a b c d)) hx hy rfl
def gbNilR{L:List GF}(q:Rat)(x:AC)(hx:AC.lk L x=some (gr q):=by kernel_rfl):GB Tryz.prog L :=
 ⟨{ op:=.eql,t:=114,x:=.c x,y:=.c (.lit .nilp),res:=.lit (.bool false) },fun σ w A vx vy xo yo h1 h2=>by
  obtain⟨b,rfl,_⟩:=(AC.lk_ok (σ:=σ) (x:=x) hx).1 h1
  cases(show vy=.pointer none from h2)
  exact⟨.bool false,by go_simp,rfl⟩⟩
end Go.Proofs.YtmimficdpfmfgaaGreat
