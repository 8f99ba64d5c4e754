/- Laws for the walk. -/
import Derived.Test.YtjlhiaafnpompaaGreatZbj
set_option linter.unusedVariables false
set_option maxHeartbeats 4000000
set_option linter.unusedSimpArgs false
namespace Go.Proofs.YtjlhiaafnpompaaGreat
open Go.RowKit Tr
open Classical
theorem leastk{p:Nat→Prop}{n:Nat}(h:∃ k,k<n∧p k):∃ k,k<n∧p k∧∀ j,j<k→¬p j:=by
 obtain⟨k,hk,hp⟩:=h
 induction k using Nat.strongRecOn with
 | ind k ih =>
  by_cases hj:∃ j,j<k∧p j
  ·obtain⟨j,h1,h2⟩:=hj; exact ih j h1 (by omega) h2
  ·exact⟨k,hk,hp,fun j h1 h2=>hj ⟨j,h1,h2⟩⟩
def gtk{P:Program}{L:List GF}(t:TypeId)(x y:AC)(a b:Int)(r:Bool)(h:r=true↔a>b)(hx:x.gv L=some (.int .i64 a):=by kernel_rfl)(hy:y.gv L=some (.int .i64 b):=by kernel_rfl):GB P L :=
 gbInt .gtr t .i64 x y a b r (by simp only[cmpB]; congr 1; rw[Bool.eq_iff_iff,h,decide_eq_true_eq]) hx hy
noncomputable def rNk(p:Nat→Prop)(n k:Nat):Bool:=if k<n then false else if k=n then true else @decide (p k) (Classical.propDecidable _)
theorem rNk_ok{p:Nat→Prop}{n:Nat}(h:∀ k,k<n→¬p k)(hn:p n)(k:Nat):rNk p n k=true↔p k:=by
 unfold rNk
 split
 ·rename_i h1; exact⟨(fun e=>by cases e),fun e=>absurd e (h k h1)⟩
 ·split
  ·rename_i h1; subst h1; exact⟨fun _=>hn,fun _=>rfl⟩
  ·simp
theorem spec_cut{L L':List GF}(C:List (GC Tryz.prog L true))(B:List (GB Tryz.prog L))(O:List (GO Tryz.prog L)){fs:List Tr.Fn}(hfs:FnsOk Tryz.prog fs)(width depth:Nat){f:FuncId}{fn:Func}(hf:Tryz.prog.funcs[f]?=some fn)(ent:Tr.Enters Tryz.prog f)(k fuel:Nat)(mid:AS)(args:List AR)(rs:List (Nat×Nat×Nat))(ls:List (LV×Nat)){fa:List FR}{fr:FV}
  (h:Part Tryz.prog fn true fr L' mid (tailOf k (bodyOf fn))) (hg:rngOk L L' rs) (hl:litOk L' ls)
  (hev:headB (upN (gcx tys true L C B O) fs width depth) fuel (headOf k (bodyOf fn)) (enter fn [] args) mid (rngL rs) ls=true:=by kernel_rfl) (hs:(splitC k (bodyOf fn)).isSome=true:=by kernel_rfl) (hb:fn.body.isSome=true:=by kernel_rfl) (ha:arsK L args=some fa:=by kernel_rfl) (hn:args.all AR.noown=true:=by kernel_rfl)
  (hlow:mid.low=true:=by kernel_rfl) (hok:blocksOk (gcx (P:=Tryz.prog) [] true L' [] [] []) mid=true:=by kernel_rfl):SpecC Tryz.prog true f fa fr :=
 part_spec hf ent hb ha hn (part_cut (upN_ok (gcx_ok tys_ok C B O) mixed rfl hfs width depth) mixed (by rw[upN_ints]; rfl) (by rw[upN_hp]; rfl) (by rw[upN_cuts rfl]; rfl) k (fun x _ j hj=>by rw[upN_cuts rfl] at hj; exact by cases hj) hs fuel (rngL rs) ls hev (gives_by hg hl) hlow hok h)
theorem cut_part{L L':List GF}(C:List (GC Tryz.prog L true))(B:List (GB Tryz.prog L))(O:List (GO Tryz.prog L)){fn:Func}{c:Code}{s:AS}(k fuel:Nat)(mid:AS)(rs:List (Nat×Nat×Nat))(ls:List (LV×Nat)){fr:FV}
  (h:Part Tryz.prog fn true fr L' mid (tailOf k c)) (hg:rngOk L L' rs) (hl:litOk L' ls)
  (hev:headB (gcx tys true L C B O) fuel (headOf k c) s mid (rngL rs) ls=true:=by kernel_rfl) (hs:(splitC k c).isSome=true:=by kernel_rfl) (hlow:mid.low=true:=by kernel_rfl) (hok:blocksOk (gcx (P:=Tryz.prog) [] true L' [] [] []) mid=true:=by kernel_rfl):Part Tryz.prog fn true fr L s c :=
 part_cut (gcx_ok tys_ok C B O) mixed rfl rfl rfl k (fun x _ j hj=>by cases hj) hs fuel (rngL rs) ls hev (gives_by hg hl) hlow hok h
def lgML(g1 g2 g3 g4:RawG):List GF:=[g1.cells,g2.cells,g3.cells,g4.cells,[gx (.int .i64 (Sz g1.s1))],[gx (.int .i64 (Sz g1.s2))],[gx (.int .i64 (Sz g1.s3))],[gx (.int .i64 (Sz g1.s4))],[gx (.int .i64 (Sz g2.s1))],[gx (.int .i64 (Sz g2.s2))],[gx (.int .i64 (Sz g2.s3))],[gx (.int .i64 (Sz g2.s4))],[gx (.int .i64 (Sz g3.s1))],[gx (.int .i64 (Sz g3.s2))],[gx (.int .i64 (Sz g3.s3))],[gx (.int .i64 (Sz g3.s4))],[gx (.int .i64 (Sz g4.s1))],[gx (.int .i64 (Sz g4.s2))],[gx (.int .i64 (Sz g4.s3))],[gx (.int .i64 (Sz g4.s4))]].flatten
def lgMP(g1 g2 g3 g4:RawG)(k:Nat):Prop:=([(Sz g1.s1)>12,(Sz g1.s2)>12,(Sz g1.s3)>12,(Sz g1.s4)>12,(Sz g2.s1)>12,(Sz g2.s2)>12,(Sz g2.s3)>12,(Sz g2.s4)>12,(Sz g3.s1)>12,(Sz g3.s2)>12,(Sz g3.s3)>12,(Sz g3.s4)>12,(Sz g4.s1)>12,(Sz g4.s2)>12,(Sz g4.s3)>12,(Sz g4.s4)>12]:List Prop).getD k False
def lgMO(g1 g2 g3 g4:RawG):List (GO Tryz.prog (lgML g1 g2 g3 g4)):=[lS (.sym 1) g1.s1 (.sym 32),lS (.sym 3) g1.s2 (.sym 33),lS (.sym 5) g1.s3 (.sym 34),lS (.sym 7) g1.s4 (.sym 35),lS (.sym 9) g2.s1 (.sym 36),lS (.sym 11) g2.s2 (.sym 37),lS (.sym 13) g2.s3 (.sym 38),lS (.sym 15) g2.s4 (.sym 39),lS (.sym 17) g3.s1 (.sym 40),lS (.sym 19) g3.s2 (.sym 41),lS (.sym 21) g3.s3 (.sym 42),lS (.sym 23) g3.s4 (.sym 43),lS (.sym 25) g4.s1 (.sym 44),lS (.sym 27) g4.s2 (.sym 45),lS (.sym 29) g4.s3 (.sym 46),lS (.sym 31) g4.s4 (.sym 47)]
def lgMB(g1 g2 g3 g4:RawG)(r:Nat→Bool)(hr:∀ k,k<16→(r k=true↔lgMP g1 g2 g3 g4 k)):List (GB Tryz.prog (lgML g1 g2 g3 g4)) :=
  [gtk 3 (.sym 32) (.lit (.int .i64 12)) (Sz g1.s1) 12 (r 0) (hr 0 (by decide)),
   gtk 3 (.sym 33) (.lit (.int .i64 12)) (Sz g1.s2) 12 (r 1) (hr 1 (by decide)),
   gtk 3 (.sym 34) (.lit (.int .i64 12)) (Sz g1.s3) 12 (r 2) (hr 2 (by decide)),
   gtk 3 (.sym 35) (.lit (.int .i64 12)) (Sz g1.s4) 12 (r 3) (hr 3 (by decide)),
   gtk 3 (.sym 36) (.lit (.int .i64 12)) (Sz g2.s1) 12 (r 4) (hr 4 (by decide)),
   gtk 3 (.sym 37) (.lit (.int .i64 12)) (Sz g2.s2) 12 (r 5) (hr 5 (by decide)),
   gtk 3 (.sym 38) (.lit (.int .i64 12)) (Sz g2.s3) 12 (r 6) (hr 6 (by decide)),
   gtk 3 (.sym 39) (.lit (.int .i64 12)) (Sz g2.s4) 12 (r 7) (hr 7 (by decide)),
   gtk 3 (.sym 40) (.lit (.int .i64 12)) (Sz g3.s1) 12 (r 8) (hr 8 (by decide)),
   gtk 3 (.sym 41) (.lit (.int .i64 12)) (Sz g3.s2) 12 (r 9) (hr 9 (by decide)),
   gtk 3 (.sym 42) (.lit (.int .i64 12)) (Sz g3.s3) 12 (r 10) (hr 10 (by decide)),
   gtk 3 (.sym 43) (.lit (.int .i64 12)) (Sz g3.s4) 12 (r 11) (hr 11 (by decide)),
   gtk 3 (.sym 44) (.lit (.int .i64 12)) (Sz g4.s1) 12 (r 12) (hr 12 (by decide)),
   gtk 3 (.sym 45) (.lit (.int .i64 12)) (Sz g4.s2) 12 (r 13) (hr 13 (by decide)),
   gtk 3 (.sym 46) (.lit (.int .i64 12)) (Sz g4.s3) 12 (r 14) (hr 14 (by decide)),
   gtk 3 (.sym 47) (.lit (.int .i64 12)) (Sz g4.s4) 12 (r 15) (hr 15 (by decide))]
theorem lgME(g1 g2 g3 g4:RawG)(r:Nat→Bool)(hr:∀ k,k<16→(r k=true↔lgMP g1 g2 g3 g4 k))(b:Bool)(hev:evL (gcx tys true (lgML g1 g2 g3 g4) [] (lgMB g1 g2 g3 g4 r hr) (lgMO g1 g2 g3 g4)) Tryz.f5 2000 [⟨syms 0 32,27,none⟩] [.c (.lit (.int .i64 12)),.c (.sl 0 0 4 4)] (.r (.c (.lit (.bool b))))=true):SpecM Tryz.prog true 5 [(g1.cells++g2.cells++g3.cells++g4.cells,27)] [.f (.c (gl (.int .i64 12))),.sl 0 0 4 4] (B1 b) :=
 ev_sm (L:=lgML g1 g2 g3 g4) tys_ok mixed [] (lgMB g1 g2 g3 g4 r hr) (lgMO g1 g2 g3 g4) Tryz.func5 eo5 2000 [⟨syms 0 32,27,none⟩] [.c (.lit (.int .i64 12)),.c (.sl 0 0 4 4)] (.r (.c (.lit (.bool b)))) hev
theorem lgMT(g1 g2 g3 g4:RawG)(k:Nat)(hk:k<16)(h:∀ j,j<k→¬lgMP g1 g2 g3 g4 j)(hp:lgMP g1 g2 g3 g4 k):SpecM Tryz.prog true 5 [(g1.cells++g2.cells++g3.cells++g4.cells,27)] [.f (.c (gl (.int .i64 12))),.sl 0 0 4 4] (B1 true):=by
 rcases(by omega:k=0∨k=1∨k=2∨k=3∨k=4∨k=5∨k=6∨k=7∨k=8∨k=9∨k=10∨k=11∨k=12∨k=13∨k=14∨k=15) with rfl|rfl|rfl|rfl|rfl|rfl|rfl|rfl|rfl|rfl|rfl|rfl|rfl|rfl|rfl|rfl
 all_goals exact lgME g1 g2 g3 g4 (rNk (lgMP g1 g2 g3 g4) _) (fun j _=>rNk_ok h hp j) true (by kernel_rfl)
def lgMC(g1 g2 g3 g4:RawG):Prop:=∃ k,k<16∧lgMP g1 g2 g3 g4 k
theorem lgM(g1 g2 g3 g4:RawG)(b:Bool)(hb:b=true↔lgMC g1 g2 g3 g4):SpecM Tryz.prog true 5 [(g1.cells++g2.cells++g3.cells++g4.cells,27)] [.f (.c (gl (.int .i64 12))),.sl 0 0 4 4] (B1 b):=by
 cases b
 ·exact lgME g1 g2 g3 g4 (fun _=>false) (fun k hk=>⟨(fun e=>by cases e),fun e=>by cases hb.2 ⟨k,hk,e⟩⟩) false (by kernel_rfl)
 ·obtain⟨k,hk,hp,h⟩:=leastk (hb.1 rfl)
  exact lgMT g1 g2 g3 g4 k hk h hp
def lgPL(g1:RawG):List GF:=[g1.cells,[gx (.int .i64 (Sz g1.s1))],[gx (.int .i64 (Sz g1.s2))],[gx (.int .i64 (Sz g1.s3))],[gx (.int .i64 (Sz g1.s4))]].flatten
def lgPP(g1:RawG)(k:Nat):Prop:=([(Sz g1.s1)>12,(Sz g1.s2)>12,(Sz g1.s3)>12,(Sz g1.s4)>12]:List Prop).getD k False
def lgPO(g1:RawG):List (GO Tryz.prog (lgPL g1)):=[lS (.sym 1) g1.s1 (.sym 8),lS (.sym 3) g1.s2 (.sym 9),lS (.sym 5) g1.s3 (.sym 10),lS (.sym 7) g1.s4 (.sym 11)]
def lgPB(g1:RawG)(r:Nat→Bool)(hr:∀ k,k<4→(r k=true↔lgPP g1 k)):List (GB Tryz.prog (lgPL g1)) :=
  [gtk 3 (.sym 8) (.lit (.int .i64 12)) (Sz g1.s1) 12 (r 0) (hr 0 (by decide)),
   gtk 3 (.sym 9) (.lit (.int .i64 12)) (Sz g1.s2) 12 (r 1) (hr 1 (by decide)),
   gtk 3 (.sym 10) (.lit (.int .i64 12)) (Sz g1.s3) 12 (r 2) (hr 2 (by decide)),
   gtk 3 (.sym 11) (.lit (.int .i64 12)) (Sz g1.s4) 12 (r 3) (hr 3 (by decide))]
theorem lgPE(g1:RawG)(r:Nat→Bool)(hr:∀ k,k<4→(r k=true↔lgPP g1 k))(b:Bool)(hev:evL (gcx tys true (lgPL g1) [] (lgPB g1 r hr) (lgPO g1)) Tryz.f5 2000 [⟨syms 0 8,27,none⟩] [.c (.lit (.int .i64 12)),.c (.sl 0 0 1 1)] (.r (.c (.lit (.bool b))))=true):SpecM Tryz.prog true 5 [(g1.cells,27)] [.f (.c (gl (.int .i64 12))),.sl 0 0 1 1] (B1 b) :=
 ev_sm (L:=lgPL g1) tys_ok mixed [] (lgPB g1 r hr) (lgPO g1) Tryz.func5 eo5 2000 [⟨syms 0 8,27,none⟩] [.c (.lit (.int .i64 12)),.c (.sl 0 0 1 1)] (.r (.c (.lit (.bool b)))) hev
theorem lgPT(g1:RawG)(k:Nat)(hk:k<4)(h:∀ j,j<k→¬lgPP g1 j)(hp:lgPP g1 k):SpecM Tryz.prog true 5 [(g1.cells,27)] [.f (.c (gl (.int .i64 12))),.sl 0 0 1 1] (B1 true):=by
 rcases(by omega:k=0∨k=1∨k=2∨k=3) with rfl|rfl|rfl|rfl
 all_goals exact lgPE g1 (rNk (lgPP g1) _) (fun j _=>rNk_ok h hp j) true (by kernel_rfl)
def lgPC(g1:RawG):Prop:=∃ k,k<4∧lgPP g1 k
theorem lgP(g1:RawG)(b:Bool)(hb:b=true↔lgPC g1):SpecM Tryz.prog true 5 [(g1.cells,27)] [.f (.c (gl (.int .i64 12))),.sl 0 0 1 1] (B1 b):=by
 cases b
 ·exact lgPE g1 (fun _=>false) (fun k hk=>⟨(fun e=>by cases e),fun e=>by cases hb.2 ⟨k,hk,e⟩⟩) false (by kernel_rfl)
 ·obtain⟨k,hk,hp,h⟩:=leastk (hb.1 rfl)
  exact lgPT g1 k hk h hp
end Go.Proofs.YtjlhiaafnpompaaGreat
namespace Go.Proofs.YtjlhiaafnpompaaGreat
open Go.RowKit Tr
open Classical
noncomputable def c4:Code:=tailOf 4 (bodyOf lawF)
def mid4E:AS:={ tmps:=slotsA 177 [(2,.r (.c (.own 0 0))),(3,.r (.c (.own 6 0))),(6,.r (.c (.sym 42)))],blocks:=blksA 7 [(0,.live ⟨syms 0 33,29,none⟩),(6,.live ⟨syms 33 9,51,none⟩)] }
def mid4(n:Nat):AS:={ tmps:=slotsA 177 [(2,.r (.c (.own 0 0))),(3,.r (.c (.own 6 0))),(5,.r (.c (.sg 150 0 n))),(6,.r (.c (.lit (.int .i64 0))))],blocks:=blksA 151 [(0,.live ⟨syms 0 33,29,none⟩),(6,.live ⟨syms 33 9,51,none⟩),(66,.dead),(96,.dead),(150,.live ⟨syms 42 (9*n),51,some 9⟩)] }
def L4E(m:RawM)(p:RawP)(e:Int):List GF:=[cM m,p.cells,[gx (.int .i64 e)]].flatten
def L41(m:RawM)(p x:RawP):List GF:=[cM m,p.cells,x.cells].flatten
def L42(m:RawM)(p x y:RawP):List GF:=[cM m,p.cells,x.cells,y.cells].flatten
abbrev StaysC(m:RawM)(p:RawP)(r:Bool)(k:Int):Prop:=SpecC Tryz.prog true 19 [.row (cM m),.row p.cells] (.tup [.c (gl (.bool r)),.c (gl (.int .i64 k))])
abbrev Tail16(m:RawM):Prop:=∃ n q,Part Tryz.prog lawF true TR (L16 m n q) mid16 c16
section
variable(m:RawM)(p x y:RawP)
theorem partE(e:Int)(he:e≠0)(r:Bool)(k:Int)(HP:StaysC m p r k)(H:Tail16 m):Part Tryz.prog lawF true TR (L4E m p e) mid4E c4:=by
 obtain⟨n,q,H⟩:=H
 exact cut_part (L':=L16 m n q) [gs HP [.row (syms 0 33),.row (syms 33 9)] (.tup [.c (.lit (.bool r)),.c (.lit (.int .i64 k))])]
  [bI .eql 31 (.sym 42) (.lit (.int .i64 0)) e 0 false (by simp only[cmpB]; congr 1; simpa using he)] [] 16 2000 mid16 [(0,0,33)] [] H ⟨by kernel_rfl,trivial⟩ trivial
def C41(r:Bool)(k:Int)(HP:StaysC m p r k)(HX:StaysC m x true 0):List (GC Tryz.prog (L41 m p x) true) :=
 [gs HP [.row (syms 0 33),.row (syms 33 9)] (.tup [.c (.lit (.bool r)),.c (.lit (.int .i64 k))]),gs HX [.row (syms 0 33),.row (syms 42 9)] (.tup [.c (.lit (.bool true)),.c (.lit (.int .i64 0))])]
def C42(r:Bool)(k:Int)(HP:StaysC m p r k)(HX:StaysC m x true 0)(HY:StaysC m y true 0):List (GC Tryz.prog (L42 m p x y) true) :=
  [gs HP [.row (syms 0 33),.row (syms 33 9)] (.tup [.c (.lit (.bool r)),.c (.lit (.int .i64 k))]),gs HX [.row (syms 0 33),.row (syms 42 9)] (.tup [.c (.lit (.bool true)),.c (.lit (.int .i64 0))]),gs HY [.row (syms 0 33),.row (syms 51 9)] (.tup [.c (.lit (.bool true)),.c (.lit (.int .i64 0))])]
def B41(b:Bool)(hb:b=true↔x=p):List (GB Tryz.prog (L41 m p x)) :=
 [bP (.row (syms 42 9)) (.row (syms 33 9)) x p b hb,gbNeb 4 Tryz.underlying4 true true,gbNeb 4 Tryz.underlying4 false false]
def B42(b c:Bool)(hb:b=true↔x=p)(hc:c=true↔y=p):List (GB Tryz.prog (L42 m p x y)) :=
 [bP (.row (syms 42 9)) (.row (syms 33 9)) x p b hb,bP (.row (syms 51 9)) (.row (syms 33 9)) y p c hc,gbNeb 4 Tryz.underlying4 true true,gbNeb 4 Tryz.underlying4 false false]
theorem part1(b:Bool)(hb:b=true↔x=p)(HP:StaysC m p b 0)(HX:StaysC m x true 0)(H:Tail16 m):Part Tryz.prog lawF true TR (L41 m p x) (mid4 1) c4:=by
 obtain⟨n,q,H⟩:=H
 refine cut_part (L':=L16 m n q) (C41 m p x b 0 HP HX) (B41 m p x b hb) [] 16 2000 mid16 [(0,0,33)] [] H ⟨by kernel_rfl,trivial⟩ trivial (hev:=?_)
 cases b<;>kernel_rfl
theorem part1N(r:Bool)(HP:StaysC m p r 2)(HX:StaysC m x true 0)(H:Tail16 m):Part Tryz.prog lawF true TR (L41 m p x) (mid4 1) c4:=by
 obtain⟨n,q,H⟩:=H
 obtain⟨b,hb⟩:∃ b:Bool,b=true↔x=p:=⟨decide (x=p),decide_eq_true_iff⟩
 refine cut_part (L':=L16 m n q) (C41 m p x r 2 HP HX) (B41 m p x b hb) [] 16 2000 mid16 [(0,0,33)] [] H ⟨by kernel_rfl,trivial⟩ trivial (hev:=?_)
 cases b<;>kernel_rfl
theorem part2(b c r:Bool)(hb:b=true↔x=p)(hc:c=true↔y=p)(hr:r=(b || c))(HP:StaysC m p r 0)(HX:StaysC m x true 0)(HY:StaysC m y true 0)(H:Tail16 m):Part Tryz.prog lawF true TR (L42 m p x y) (mid4 2) c4:=by
 obtain⟨n,q,H⟩:=H
 subst hr
 refine cut_part (L':=L16 m n q) (C42 m p x y _ 0 HP HX HY) (B42 m p x y b c hb hc) [] 16 2000 mid16 [(0,0,33)] [] H ⟨by kernel_rfl,trivial⟩ trivial (hev:=?_)
 cases b<;>cases c<;>kernel_rfl
theorem part2N(r:Bool)(HP:StaysC m p r 2)(HX:StaysC m x true 0)(HY:StaysC m y true 0)(H:Tail16 m):Part Tryz.prog lawF true TR (L42 m p x y) (mid4 2) c4:=by
 obtain⟨n,q,H⟩:=H
 obtain⟨b,hb⟩:∃ b:Bool,b=true↔x=p:=⟨decide (x=p),decide_eq_true_iff⟩
 obtain⟨c,hc⟩:∃ b:Bool,b=true↔y=p:=⟨decide (y=p),decide_eq_true_iff⟩
 refine cut_part (L':=L16 m n q) (C42 m p x y r 2 HP HX HY) (B42 m p x y b c hb hc) [] 16 2000 mid16 [(0,0,33)] [] H ⟨by kernel_rfl,trivial⟩ trivial (hev:=?_)
 cases b<;>cases c<;>kernel_rfl
end
end Go.Proofs.YtjlhiaafnpompaaGreat
set_option linter.unusedSimpArgs false
namespace Go.Proofs.YtjlhiaafnpompaaGreat
open Go.RowKit Tr
open Classical
theorem fAtf(a b c d x y:QC)(b_a:ZL a 2000000)(b_b:ZL b 2000000)(b_c:ZL c 2000000)(b_d:ZL d 2000000)(b_x:ZL x 2000000)(b_y:ZL y 2000000) :SpecC Tryz.prog true 55 [.row (cq a++cq b++cq c++cq d++[gl (.bool false)]),.row (cq x++cq y)] (.r (.row (cq ((a*x)+(b*y))++cq ((c*x)+(d*y))))) :=
  ev_sp (L := [cq a,cq b,cq c,cq d,cq x,cq y,cq (a * x),cq (b * y),cq ((a * x) + (b * y)),cq (c * x),cq (d * y),cq ((c * x) + (d * y))].flatten) tys_ok mixed
     [gs (pMul a x b_a b_x (by decide)) [sy [0,1],sy [8,9]] (.r (sy [12,13])),gs (pMul b y b_b b_y (by decide)) [sy [2,3],sy [10,11]] (.r (sy [14,15])),gs (pAdd (a*x) (b*y) (ZL_mul b_a b_x) (ZL_mul b_b b_y) (by decide)) [sy [12,13],sy [14,15]] (.r (sy [16,17])),gs (pMul c x b_c b_x (by decide)) [sy [4,5],sy [8,9]] (.r (sy [18,19])),gs (pMul d y b_d b_y (by decide)) [sy [6,7],sy [10,11]] (.r (sy [20,21])),gs (pAdd (c*x) (d*y) (ZL_mul b_c b_x) (ZL_mul b_d b_y) (by decide)) [sy [18,19],sy [20,21]] (.r (sy [22,23]))]
     [] [] Tryz.func55 eo55 2000 [.row (flA [syms 0 8,[.lit (.bool false)]]),.row (syms 8 4)] (.r (.row [.sym 16,.sym 17,.sym 22,.sym 23]))
theorem fAtf_b0_1(a b c d x y:QC){k:Nat}(b_a:ZL a k)(b_b:ZL b k)(b_c:ZL c k)(b_d:ZL d k)(b_x:ZL x k)(b_y:ZL y k):ZL ((a*x)+(b*y)) (8*k+3):=(ZL_add (ZL_mul b_a b_x) (ZL_mul b_b b_y)).mono (by omega)
theorem fAtf_b0_2(a b c d x y:QC){k:Nat}(b_a:ZL a k)(b_b:ZL b k)(b_c:ZL c k)(b_d:ZL d k)(b_x:ZL x k)(b_y:ZL y k):ZL ((c*x)+(d*y)) (8*k+3):=(ZL_add (ZL_mul b_c b_x) (ZL_mul b_d b_y)).mono (by omega)
theorem fAtt(a b c d x y:QC)(b_a:ZL a 2000000)(b_b:ZL b 2000000)(b_c:ZL c 2000000)(b_d:ZL d 2000000)(b_x:ZL x 2000000)(b_y:ZL y 2000000) :SpecC Tryz.prog true 55 [.row (cq a++cq b++cq c++cq d++[gl (.bool true)]),.row (cq x++cq y)] (.r (.row (cq ((a*(cj x))+(b*(cj y)))++cq ((c*(cj x))+(d*(cj y)))))) :=
  ev_sp (L := [cq a,cq b,cq c,cq d,cq x,cq y,cq (cj x),cq (cj y),cq (a * (cj x)),cq (b * (cj y)),cq ((a * (cj x)) + (b * (cj y))),cq (c * (cj x)),cq (d * (cj y)),cq ((c * (cj x)) + (d * (cj y)))].flatten) tys_ok mixed
     [gs (pQConj x (b_x.mono (by omega))) [sy [8,9]] (.r (sy [12,13])),gs (pQConj y (b_y.mono (by omega))) [sy [10,11]] (.r (sy [14,15])),gs (pMul a (cj x) b_a (ZL_cj b_x) (by decide)) [sy [0,1],sy [12,13]] (.r (sy [16,17])),gs (pMul b (cj y) b_b (ZL_cj b_y) (by decide)) [sy [2,3],sy [14,15]] (.r (sy [18,19])),gs (pAdd (a*(cj x)) (b*(cj y)) (ZL_mul b_a (ZL_cj b_x)) (ZL_mul b_b (ZL_cj b_y)) (by decide)) [sy [16,17],sy [18,19]] (.r (sy [20,21])),gs (pMul c (cj x) b_c (ZL_cj b_x) (by decide)) [sy [4,5],sy [12,13]] (.r (sy [22,23])),gs (pMul d (cj y) b_d (ZL_cj b_y) (by decide)) [sy [6,7],sy [14,15]] (.r (sy [24,25])),gs (pAdd (c*(cj x)) (d*(cj y)) (ZL_mul b_c (ZL_cj b_x)) (ZL_mul b_d (ZL_cj b_y)) (by decide)) [sy [22,23],sy [24,25]] (.r (sy [26,27]))]
     [] [] Tryz.func55 eo55 2000 [.row (flA [syms 0 8,[.lit (.bool true)]]),.row (syms 8 4)] (.r (.row [.sym 20,.sym 21,.sym 26,.sym 27]))
theorem fAtt_b0_1(a b c d x y:QC){k:Nat}(b_a:ZL a k)(b_b:ZL b k)(b_c:ZL c k)(b_d:ZL d k)(b_x:ZL x k)(b_y:ZL y k):ZL ((a*(cj x))+(b*(cj y))) (8*k+3):=(ZL_add (ZL_mul b_a (ZL_cj b_x)) (ZL_mul b_b (ZL_cj b_y))).mono (by omega)
theorem fAtt_b0_2(a b c d x y:QC){k:Nat}(b_a:ZL a k)(b_b:ZL b k)(b_c:ZL c k)(b_d:ZL d k)(b_x:ZL x k)(b_y:ZL y k):ZL ((c*(cj x))+(d*(cj y))) (8*k+3):=(ZL_add (ZL_mul b_c (ZL_cj b_x)) (ZL_mul b_d (ZL_cj b_y))).mono (by omega)
theorem fStaysf(a b c d:QC)(p:Pt)(b_a:ShortZ a)(b_b:ShortZ b)(b_c:ShortZ c)(b_d:ShortZ d)(b_p:ShortP p)(hd:¬(((a*d) - (b*c))=(⟨0,0⟩:QC)))(hn:c=(⟨1,0⟩:QC)∨(c=(⟨0,0⟩:QC)∧d=(⟨1,0⟩:QC))):SpecC Tryz.prog true 19 [.row ((rawQ a).cells++(rawQ b).cells++(rawQ c).cells++(rawQ d).cells++[gl (.bool false)]),.row ((rawPt p).cells)] (if((a*(ptX p))+(b*(ptY p)))*(ptY p)=(ptX p)*((c*(ptX p))+(d*(ptY p))) then .tup [.c (gl (.bool true)),.c (gl (.int .i64 0))] else .tup [.c (gl (.bool false)),.c (gl (.int .i64 0))]) :=
  have t1:=mCheck a b c d false b_a b_b b_c b_d
  have t2:=pSMay (rawPt p) (sz_shortP b_p) true (tI (rawPt_ok b_p))
  have t3:=fMap a b c d false b_a b_b b_c b_d
  have t4:=fAtf a b c d (ptX p) (ptY p) ((ZL_short b_a).mono (by omega)) ((ZL_short b_b).mono (by omega)) ((ZL_short b_c).mono (by omega)) ((ZL_short b_d).mono (by omega)) ((ZL_ptX b_p).mono (by omega)) ((ZL_ptY p).mono (by omega))
  have t5:=pPSame ((a*(ptX p))+(b*(ptY p))) ((c*(ptX p))+(d*(ptY p))) (ptX p) (ptY p) (fAtf_b0_1 a b c d (ptX p) (ptY p) (ZL_short b_a) (ZL_short b_b) (ZL_short b_c) (ZL_short b_d) (ZL_ptX b_p) (ZL_ptY p)) (fAtf_b0_2 a b c d (ptX p) (ptY p) (ZL_short b_a) (ZL_short b_b) (ZL_short b_c) (ZL_short b_d) (ZL_ptX b_p) (ZL_ptY p)) (ZL_ptX b_p) (ZL_ptY p) (by decide)
  (Classical.em (((a * (ptX p)) + (b * (ptY p))) * (ptY p) = (ptX p) * ((c * (ptX p)) + (d * (ptY p))))).elim (fun h0 => .it h0 (ev_sp (L := [(rawQ a).cells,(rawQ b).cells,(rawQ c).cells,(rawQ d).cells,(rawPt p).cells,cq a,cq b,cq c,cq d,cq (ptX p),cq (ptY p),cq ((a * (ptX p)) + (b * (ptY p))),cq ((c * (ptX p)) + (d * (ptY p)))].flatten) tys_ok mixed
     [gs ((t1.f hd).t hn) [.row (flA [syms 0 32,[.lit (.bool false)]])] (.r (.c (.lit (.int .i64 0)))),gs (t2) [.row (syms 32 9)] (.r (.c (.lit (.bool true)))),gs (t3) [.row (flA [syms 0 32,[.lit (.bool false)]])] (.r (.row (flA [syms 41 8,[.lit (.bool false)]]))),gs (pPoint p b_p) [.row (syms 32 9)] (.r (.row (syms 49 4))),gs (t4) [.row (flA [syms 41 8,[.lit (.bool false)]]),.row (syms 49 4)] (.r (.row (syms 53 4))),gs (t5 true (tI h0)) [.row (syms 53 4),.row (syms 49 4)] (.r (.c (.lit (.bool true))))]
     [] [] Tryz.func19 eo19 2000 [.row (flA [syms 0 32,[.lit (.bool false)]]),.row (syms 32 9)] (.tup [.c (.lit (.bool true)),.c (.lit (.int .i64 0))])))
   (fun h0=>.ie (fun h=>h0 h) (ev_sp (L:=[(rawQ a).cells,(rawQ b).cells,(rawQ c).cells,(rawQ d).cells,(rawPt p).cells,cq a,cq b,cq c,cq d,cq (ptX p),cq (ptY p),cq ((a*(ptX p))+(b*(ptY p))),cq ((c*(ptX p))+(d*(ptY p)))].flatten) tys_ok mixed
     [gs ((t1.f hd).t hn) [.row (flA [syms 0 32,[.lit (.bool false)]])] (.r (.c (.lit (.int .i64 0)))),gs (t2) [.row (syms 32 9)] (.r (.c (.lit (.bool true)))),gs (t3) [.row (flA [syms 0 32,[.lit (.bool false)]])] (.r (.row (flA [syms 41 8,[.lit (.bool false)]]))),gs (pPoint p b_p) [.row (syms 32 9)] (.r (.row (syms 49 4))),gs (t4) [.row (flA [syms 41 8,[.lit (.bool false)]]),.row (syms 49 4)] (.r (.row (syms 53 4))),gs (t5 false (fI h0)) [.row (syms 53 4),.row (syms 49 4)] (.r (.c (.lit (.bool false))))]
     [] [] Tryz.func19 eo19 2000 [.row (flA [syms 0 32,[.lit (.bool false)]]),.row (syms 32 9)] (.tup [.c (.lit (.bool false)),.c (.lit (.int .i64 0))])))
def ws7(a:QC)(b:QC)(p:Pt):QC:=(a*(cj (ptX p)))+(b*(cj (ptY p)))
theorem ws7_b0(a:QC)(b:QC)(p:Pt)(c:QC)(d:QC)(b_a:ShortZ a)(b_b:ShortZ b)(b_c:ShortZ c)(b_d:ShortZ d)(b_p:ShortP p):ZL (ws7 a b p) 8195:=(fAtt_b0_1 a b c d (ptX p) (ptY p) (ZL_short b_a) (ZL_short b_b) (ZL_short b_c) (ZL_short b_d) (ZL_ptX b_p) (ZL_ptY p)).mono (by omega)
def ws8(c:QC)(d:QC)(p:Pt):QC:=(c*(cj (ptX p)))+(d*(cj (ptY p)))
theorem ws8_b0(c:QC)(d:QC)(p:Pt)(a:QC)(b:QC)(b_a:ShortZ a)(b_b:ShortZ b)(b_c:ShortZ c)(b_d:ShortZ d)(b_p:ShortP p):ZL (ws8 c d p) 8195:=(fAtt_b0_2 a b c d (ptX p) (ptY p) (ZL_short b_a) (ZL_short b_b) (ZL_short b_c) (ZL_short b_d) (ZL_ptX b_p) (ZL_ptY p)).mono (by omega)
theorem fStayst(a b c d:QC)(p:Pt)(b_a:ShortZ a)(b_b:ShortZ b)(b_c:ShortZ c)(b_d:ShortZ d)(b_p:ShortP p)(hd:¬(((a*d) - (b*c))=(⟨0,0⟩:QC)))(hn:c=(⟨1,0⟩:QC)∨(c=(⟨0,0⟩:QC)∧d=(⟨1,0⟩:QC))):SpecC Tryz.prog true 19 [.row ((rawQ a).cells++(rawQ b).cells++(rawQ c).cells++(rawQ d).cells++[gl (.bool true)]),.row ((rawPt p).cells)] (if(ws7 a b p)*(ptY p)=(ptX p)*(ws8 c d p) then .tup [.c (gl (.bool true)),.c (gl (.int .i64 0))] else .tup [.c (gl (.bool false)),.c (gl (.int .i64 0))]) :=
  have t1:=mCheck a b c d true b_a b_b b_c b_d
  have t2:=pSMay (rawPt p) (sz_shortP b_p) true (tI (rawPt_ok b_p))
  have t3:=fMap a b c d true b_a b_b b_c b_d
  have t4:=fAtt a b c d (ptX p) (ptY p) ((ZL_short b_a).mono (by omega)) ((ZL_short b_b).mono (by omega)) ((ZL_short b_c).mono (by omega)) ((ZL_short b_d).mono (by omega)) ((ZL_ptX b_p).mono (by omega)) ((ZL_ptY p).mono (by omega))
  have t5:=pPSame (ws7 a b p) (ws8 c d p) (ptX p) (ptY p) (ws7_b0 a b p c d b_a b_b b_c b_d b_p) (ws8_b0 c d p a b b_a b_b b_c b_d b_p) (ZL_ptX b_p) (ZL_ptY p) (by decide)
  (Classical.em ((ws7 a b p) * (ptY p) = (ptX p) * (ws8 c d p))).elim (fun h0 => .it h0 (ev_sp (L := [(rawQ a).cells,(rawQ b).cells,(rawQ c).cells,(rawQ d).cells,(rawPt p).cells,cq a,cq b,cq c,cq d,cq (ptX p),cq (ptY p),cq (ws7 a b p),cq (ws8 c d p)].flatten) tys_ok mixed
     [gs ((t1.f hd).t hn) [.row (flA [syms 0 32,[.lit (.bool true)]])] (.r (.c (.lit (.int .i64 0)))),gs (t2) [.row (syms 32 9)] (.r (.c (.lit (.bool true)))),gs (t3) [.row (flA [syms 0 32,[.lit (.bool true)]])] (.r (.row (flA [syms 41 8,[.lit (.bool true)]]))),gs (pPoint p b_p) [.row (syms 32 9)] (.r (.row (syms 49 4))),gs (t4) [.row (flA [syms 41 8,[.lit (.bool true)]]),.row (syms 49 4)] (.r (.row (syms 53 4))),gs (t5 true (tI h0)) [.row (syms 53 4),.row (syms 49 4)] (.r (.c (.lit (.bool true))))]
     [] [] Tryz.func19 eo19 2000 [.row (flA [syms 0 32,[.lit (.bool true)]]),.row (syms 32 9)] (.tup [.c (.lit (.bool true)),.c (.lit (.int .i64 0))])))
   (fun h0=>.ie (fun h=>h0 h) (ev_sp (L:=[(rawQ a).cells,(rawQ b).cells,(rawQ c).cells,(rawQ d).cells,(rawPt p).cells,cq a,cq b,cq c,cq d,cq (ptX p),cq (ptY p),cq (ws7 a b p),cq (ws8 c d p)].flatten) tys_ok mixed
     [gs ((t1.f hd).t hn) [.row (flA [syms 0 32,[.lit (.bool true)]])] (.r (.c (.lit (.int .i64 0)))),gs (t2) [.row (syms 32 9)] (.r (.c (.lit (.bool true)))),gs (t3) [.row (flA [syms 0 32,[.lit (.bool true)]])] (.r (.row (flA [syms 41 8,[.lit (.bool true)]]))),gs (pPoint p b_p) [.row (syms 32 9)] (.r (.row (syms 49 4))),gs (t4) [.row (flA [syms 41 8,[.lit (.bool true)]]),.row (syms 49 4)] (.r (.row (syms 53 4))),gs (t5 false (fI h0)) [.row (syms 53 4),.row (syms 49 4)] (.r (.c (.lit (.bool false))))]
     [] [] Tryz.func19 eo19 2000 [.row (flA [syms 0 32,[.lit (.bool true)]]),.row (syms 32 9)] (.tup [.c (.lit (.bool false)),.c (.lit (.int .i64 0))])))
theorem fStaysB(a b c d:QC)(t:Bool)(p:RawP)(b_a:ShortZ a)(b_b:ShortZ b)(b_c:ShortZ c)(b_d:ShortZ d)(b_p:RawP.Sz p)(hd:¬(((a*d) - (b*c))=(⟨0,0⟩:QC)))(hn:c=(⟨1,0⟩:QC)∨(c=(⟨0,0⟩:QC)∧d=(⟨1,0⟩:QC)))(hp:¬POk p.val):SpecC Tryz.prog true 19 [.row ((rawQ a).cells++(rawQ b).cells++(rawQ c).cells++(rawQ d).cells++[gx (.bool t)]),.row (p.cells)] (.tup [.c (gl (.bool false)),.c (gl (.int .i64 2))]) :=
  ev_sp (L := [(rawQ a).cells,(rawQ b).cells,(rawQ c).cells,(rawQ d).cells,[gx (.bool t)],p.cells].flatten) tys_ok mixed
     [gs (((mCheck a b c d t b_a b_b b_c b_d).f hd).t hn) [.row (syms 0 33)] (.r (.c (.lit (.int .i64 0)))),gs (pSMay p b_p false (fI hp)) [.row (syms 33 9)] (.r (.c (.lit (.bool false))))]
     [] [] Tryz.func19 eo19 2000 [.row (syms 0 33),.row (syms 33 9)] (.tup [.c (.lit (.bool false)),.c (.lit (.int .i64 2))])
end Go.Proofs.YtjlhiaafnpompaaGreat
set_option linter.unusedSimpArgs false
namespace Go.Proofs.YtjlhiaafnpompaaGreat
open Go.RowKit Tr
open Classical
theorem law_1(g1 g2 g3 g4:RawG)(t:Bool)(p:RawP)(hl:lgMC g1 g2 g3 g4):SpecC Tryz.prog true 4 [.row (g1.cells++g2.cells++g3.cells++g4.cells++[gx (.bool t)]),.row (p.cells)] (.r (.c (gl (.bool true)))) :=
  ev_sp (L := [g1.cells,g2.cells,g3.cells,g4.cells,[gx (.bool t)],p.cells].flatten) tys_ok mixed
     [gsm (lgM g1 g2 g3 g4 true (tI hl)) [11] [⟨syms 0 32,27,none⟩] [.c (.lit (.int .i64 12)),.c (.sl 0 0 4 4)] (.r (.c (.lit (.bool true)))),gs (lknown) [] (.r (.c (.lit (.bool true))))]
     [] [] Tryz.func4 eo4 2000 [.row (syms 0 33),.row (syms 33 9)] (.r (.c (.lit (.bool true))))
theorem law_2(g1 g2 g3 g4:RawG)(t:Bool)(p:RawP)(hl:¬lgMC g1 g2 g3 g4)(hq:lgPC p.g):SpecC Tryz.prog true 4 [.row (g1.cells++g2.cells++g3.cells++g4.cells++[gx (.bool t)]),.row (p.cells)] (.r (.c (gl (.bool true)))) :=
  ev_sp (L := [g1.cells,g2.cells,g3.cells,g4.cells,[gx (.bool t)],p.cells].flatten) tys_ok mixed
     [gsm (lgM g1 g2 g3 g4 false (fI hl)) [11] [⟨syms 0 32,27,none⟩] [.c (.lit (.int .i64 12)),.c (.sl 0 0 4 4)] (.r (.c (.lit (.bool false)))),
      gsm (lgP p.g true (tI hq)) [16] [⟨syms 34 8,27,none⟩] [.c (.lit (.int .i64 12)),.c (.sl 0 0 1 1)] (.r (.c (.lit (.bool true)))),gs (lknown) [] (.r (.c (.lit (.bool true))))]
     [] [] Tryz.func4 eo4 2000 [.row (syms 0 33),.row (syms 33 9)] (.r (.c (.lit (.bool true))))
theorem law_3(g1 g2 g3 g4:RawG)(t:Bool)(p:RawP)(b_g1:RawG.Sz g1)(b_g2:RawG.Sz g2)(b_g3:RawG.Sz g3)(b_g4:RawG.Sz g4)(hl:¬lgMC g1 g2 g3 g4)(hq:¬lgPC p.g)(hm:¬MOk (⟨g1,g2,g3,g4,t⟩:RawM)):SpecC Tryz.prog true 4 [.row (g1.cells++g2.cells++g3.cells++g4.cells++[gx (.bool t)]),.row (p.cells)] (.r (.c (gl (.bool true)))) :=
  ev_sp (L := [g1.cells,g2.cells,g3.cells,g4.cells,[gx (.bool t)],p.cells].flatten) tys_ok mixed
     [gsm (lgM g1 g2 g3 g4 false (fI hl)) [11] [⟨syms 0 32,27,none⟩] [.c (.lit (.int .i64 12)),.c (.sl 0 0 4 4)] (.r (.c (.lit (.bool false)))),
      gsm (lgP p.g false (fI hq)) [16] [⟨syms 34 8,27,none⟩] [.c (.lit (.int .i64 12)),.c (.sl 0 0 1 1)] (.r (.c (.lit (.bool false)))),gs (mChkN g1 g2 g3 g4 t b_g1 b_g2 b_g3 b_g4 hm) [.row (syms 0 33)] (.r (.c (.lit (.int .i64 2)))),gs (lknown) [] (.r (.c (.lit (.bool true))))]
     [] [] Tryz.func4 eo4 2000 [.row (syms 0 33),.row (syms 33 9)] (.r (.c (.lit (.bool true))))
end Go.Proofs.YtjlhiaafnpompaaGreat
