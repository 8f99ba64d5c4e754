/- Laws. -/
import Derived.Test.YtcjjdooeogmdbaaGreatVbr
import Derived.MapKept
import Derived.WideKeyRuns
set_option linter.all false
set_option maxHeartbeats 4000000
set_option maxRecDepth 100000
open Go.Lib (hid)
namespace Go.Proofs.YtcjjdooeogmdbaaGreat
open Go.RowKit Tr Proofs.Tryz
section
variable{w:World}
def fk(x:Value)(es:List MapEntry):(Instr.findKey 59 x es).run prog w=(Instr.findAsking 59 x es).run prog w:=by
 apply run_findKey_eq;kernel_rfl
def lkV:Option (Nat×Value)->Value
 | some (_,v)=>.tuple #[v,.bool true]
 | none=>.tuple #[.int .i64 0,.bool false]
def Ucg(x:Value):Prop:=∀ em w,(Instr.checkKey em 10000 59 x).run prog w=.ok () w
def lk{x:Value}{r:Nat}{es:Array MapEntry}{c:Nat}{o:Option (Nat×Value)}(hx:Ucg x)(hh:w.heap[r]?=some (.map es c))(ho:(Instr.findAsking 59 x es.toList).run prog w=.ok o w) :
  (Instr.lookup 250 (.map (some r)) x true).run prog w=.ok (lkV o) w:=by
 have h1:(prog).underlying 250=some (.map 59 3):=by kernel_rfl
 have hz:(zeroValue 3).run prog w=.ok (.int .i64 0) w:=by kernel_rfl
 have hx':=fun em=>hx em w
 cases o with
 | none=>simp[Instr.lookup,run_underlying h1,MapKept.run_getObj_map hh,hx',fk,ho,hz,Result.andThen,lkV]
 | some o=>obtain⟨i,v⟩:=o;simp[Instr.lookup,run_underlying h1,MapKept.run_getObj_map hh,hx',fk,ho,Result.andThen,lkV]
def mu{x v:Value}{r:Nat}{es:Array MapEntry}{c:Nat}(hx:Ucg x)(hh:w.heap[r]?=some (.map es c))(ho:(Instr.findAsking 59 x es.toList).run prog w=.ok none w) :
  (Instr.mapUpdate 250 (.map (some r)) x v).run prog w=.ok () { w with heap:=w.heap.setIfInBounds r (.map (es.push { key:=x,val:=v,born:=c }) (c+1)) }:=by
 have h1:(prog).underlying 250=some (.map 59 3):=by kernel_rfl
 have hx':=fun em=>hx em w
 simp[Instr.mapUpdate,run_underlying h1,MapKept.run_getObj_map hh,hx',fk,ho,MapKept.run_setObj_map _ hh,Result.andThen]
def Qju{ops:Array Oper}{rest:List Oper}{o:Oper}{a:Act}{Q:Exit->Act->World->Prop}(hg:o.guard=none)(m x:Operand)(hop:o.op=Op.lookup 250 m x true)(b:Nat)(key:Value)(es:Array MapEntry)(c:Nat)(oo:Option (Nat×Value))
  (u:Value) (hu:lkV oo=u) (hm:a.eval m=.map (some b)) (hx:a.eval x=key) (hk:Ucg key) (hh:w.heap[b]?=some (.map es c)) (ho:(Instr.findAsking 59 key es.toList).run prog w=.ok oo w) (hK:wpList prog ops Q rest (a.put o.dst u) w):wpList prog ops Q (o::rest) a w:=by
 subst hu;refine wpList_plain hg fun K' hK'=>?_
 unfold Oper.wp;simp[execOp,hop,hm,hx,lk hk hh ho,Result.andThen];exact hK' _ _ hK
def Qua{ops:Array Oper}{rest:List Oper}{o:Oper}{a:Act}{Q:Exit->Act->World->Prop}(hg:o.guard=none)(m x v:Operand)(hop:o.op=Op.mapUpdate 250 m x v)(b:Nat)(key val:Value)(es:Array MapEntry)(c:Nat)
  (hm:a.eval m=.map (some b)) (hx:a.eval x=key) (hv:a.eval v=val) (hk:Ucg key) (hh:w.heap[b]?=some (.map es c)) (ho:(Instr.findAsking 59 key es.toList).run prog w=.ok none w)
  (hK:∀ w',w'={ w with heap:=w.heap.setIfInBounds b (.map (es.push { key:=key,val:=val,born:=c }) (c+1)) }->wpList prog ops Q rest (a.put o.dst undef) w'):wpList prog ops Q (o::rest) a w:=by
 refine wpList_plain hg fun K' hK'=>?_
 unfold Oper.wp;simp[execOp,hop,hm,hx,hv,mu hk hh ho,Result.andThen];exact hK' _ _ (hK _ rfl)
end
def Qhe(w W:World)(p m n:Nat)(hp:W.heap.size=p)(hm:m<p)(hn:n<p)(hne:n≠m)(hw:w.heap.size<=m)(es:Array MapEntry)(c:Nat)(C u Z:Array Value)(hz:Z.size=u.size)(gn:W.heap[n]?=some (.cells C 59 (0,0)))(gm:W.heap[m]?=some (.map es c))(hb:Below w.heap.size w W) :
  (W.alloc (.cells Z 59)).heap[p]?=some (.cells Z 59 (0,0))/\((W.alloc (.cells Z 59)).setRow p u).heap[p]?=some (.cells u 59 (0,0))/\((W.alloc (.cells Z 59)).setRow p u).heap[m]?=some (.map es c)/\Below w.heap.size w ((W.alloc (.cells Z 59)).setRow p u) /\
   ∀ o W',W'={ ((W.alloc (.cells Z 59)).setRow p u) with heap:=((W.alloc (.cells Z 59)).setRow p u).heap.setIfInBounds m o }->W'.heap.size=p+1/\W'.heap[n]?=some (.cells C 59 (0,0))/\W'.heap[m]?=some o/\Below w.heap.size w W':=by
 have a1:(W.alloc (.cells Z 59)).heap[p]?=some (.cells Z 59 (0,0)):=by rw[<-hp];exact heap_alloc_new W _
 have a2:((W.alloc (.cells Z 59)).setRow p u).heap[p]?=some (.cells u 59 (0,0)):=setRow_heap _ _ _ _ _ _ a1;have a3:∀ k,k<p->((W.alloc (.cells Z 59)).setRow p u).heap[k]?=W.heap[k]?:=fun k hk=>by rw[setRow_other _ _ _ _ (by omega),Below.heap_alloc _ _ _ (by omega)]
 have a4:((W.alloc (.cells Z 59)).setRow p u).heap.size=p+1:=by rw[<-hp];simp[World.setRow]
 have a5:Below w.heap.size w ((W.alloc (.cells Z 59)).setRow p u):=below_setRow (hb.alloc (by omega) _) (by omega) _;refine⟨a1,a2,(a3 m hm).trans gm,a5,?_⟩;rintro o W' rfl;refine⟨by simpa using a4,?_,?_,?_⟩
 .show(Array.setIfInBounds _ m o)[n]?=_;rw[Array.getElem?_setIfInBounds_ne (Ne.symm hne),a3 n hn,gn]
 .show(Array.setIfInBounds _ m o)[m]?=_;rw[Array.getElem?_setIfInBounds_self_of_lt (by rw[a4];omega)]
 .exact a5.trans ⟨rfl,rfl,rfl,by simp,fun k hk=>Array.getElem?_setIfInBounds_ne (by omega)⟩
def Kms(n:Nat)(C u0 u1 u2:Array Value)(w:World)(hh:w.heap[n]?=some (.cells C 59 (0,0)))(s0:u0.size=9)(s1:u1.size=9)(s2:u2.size=9)
  (t0:(C.toList.drop 0).take u0.size=u0.toList) (t1:(C.toList.drop 9).take u1.size=u1.toList) (t2:(C.toList.drop 18).take u2.size=u2.toList)
  (o0:u0.all (·.oneCell')=true) (o1:u1.all (·.oneCell')=true) (o2:u2.all (·.oneCell')=true) (k0:Ucg (.agg u0)) (k1:Ucg (.agg u1)) (k2:Ucg (.agg u2))
  (hck:Calls prog 207 #[.slice (some ⟨n,0,none⟩) 3 3] w fun e w'=>e=.returned (.int .i64 0)/\Below w.heap.size w w')
  (q10 q20 q21:Bool) (e10:∀ w,(Op.equal 59 (.agg u1) (.agg u0)).run prog w=.ok q10 w) (e20:∀ w,(Op.equal 59 (.agg u2) (.agg u0)).run prog w=.ok q20 w) (e21:∀ w,(Op.equal 59 (.agg u2) (.agg u1)).run prog w=.ok q21 w) :
  Calls prog 162 #[.slice (some ⟨n,0,none⟩) 3 3] w fun e w'=>e=.returned (if q10 then .tuple #[.int .i64 0,.int .i64 1,.int .i64 0] else if q20 then .tuple #[.int .i64 0,.int .i64 2,.int .i64 0] else if q21 then .tuple #[.int .i64 1,.int .i64 2,.int .i64 0] else .tuple #[.int .i64 0,.int .i64 0,.int .i64 7])/\Below w.heap.size w w':=by
 have HC:=hid hck;have HH:=hid hh;have hn:n<w.heap.size:=(Array.getElem?_eq_some_iff.1 hh).1;clear hck hh;have hmm:=@run_makeMap prog
 go_enter func162,Tryz.ntmps162
 go_wp2_with (first
  | (go_at_call 207;refine HC.out.mono ?_;rintro e w1 ⟨rfl,hb1⟩))
 obtain⟨W,hW⟩:∃ W,W=w1.alloc (.map #[] 0):=⟨_,rfl⟩
 rw[<-hW];have hz0:W.heap.size=w1.heap.size+1:=by rw[hW];simp
 have g0:W.heap[n]?=some (.cells C 59 (0,0)):=by rw[hW,Below.heap_alloc _ _ _ (by have:=hb1.size;omega)];exact(hb1.block _ hn).trans HH.out
 have m0:W.heap[w1.heap.size]?=some (.map #[] 0):=by rw[hW];exact heap_alloc_new w1 _
 have hn1:n<w1.heap.size:=Nat.lt_of_lt_of_le hn hb1.size;have HB:=hid hb1;have HW0:Below w.heap.size w W:=by rw[hW];exact hb1.alloc hb1.size _
 clear hb1 hW;refine wp_loop_rounds 4 ?_;have z9:∀ u:Array Value,u.size=9->(#[.bool false,.bool false,.string ⟨#[]⟩,.bool false,.string ⟨#[]⟩,.bool false,.string ⟨#[]⟩,.bool false,.string ⟨#[]⟩]:Array Value).size=u.size:=fun u h=>by rw[h];rfl
 obtain⟨f1,f2,f3,f4,f5⟩:=Qhe w W (w1.heap.size+1) w1.heap.size n hz0 (by omega) (by omega) (by omega) HB.out.size (#[]) 0 C u0 _ (z9 u0 s0) g0 m0 HW0;rw[rounds_succ]
 go_wp2_with (first
  | (refine Qeg (by kernel_rfl) 59 _ rfl n 0 rfl 59 C u0 (0,0) _ g0 Tryz.underlying59 rfl (by rw[s0];kernel_rfl) t0 ?_)
  | (refine wpList_store_row rfl 59 _ _ rfl (w1.heap.size+1) u0 rfl rfl 59 _ f1 (by rw[s0];kernel_rfl) (by rw[s0];rfl) o0 ?_)
  | (refine wpList_load_row rfl 59 _ rfl (w1.heap.size+1) rfl 59 u0 (0,0) _ f2 Tryz.underlying59 rfl (by rw[s0];kernel_rfl) ?_)
  | (refine Qju rfl _ _ rfl w1.heap.size (.agg u0) (#[]) 0 (none) (.tuple #[.int .i64 0,.bool false]) rfl rfl rfl k0 f3 (rfl) ?_)
  | (refine Qua rfl _ _ _ rfl w1.heap.size (.agg u0) (.int .i64 0) (#[]) 0 rfl rfl rfl k0 f3 (rfl) ?_;intro W1 hW1;replace hW1:=hid hW1))
 obtain⟨hz1,g1,m1,HW1⟩:=f5 _ W1 hW1.out;clear f1 f2 f3 f4 f5 hW1;cases q10
 case true =>
  obtain⟨f1,f2,f3,f4,f5⟩:=Qhe w W1 (w1.heap.size+1+1) w1.heap.size n hz1 (by omega) (by omega) (by omega) HB.out.size (#[].push { key:=.agg u0,val:=.int .i64 0,born:=0 }) 1 C u1 _ (z9 u1 s1) g1 m1 HW1;rw[rounds_succ]
  go_wp2_with (first
   | (refine Qeg (by kernel_rfl) 59 _ rfl n 9 rfl 59 C u1 (0,0) _ g1 Tryz.underlying59 rfl (by rw[s1];kernel_rfl) t1 ?_)
   | (refine wpList_store_row rfl 59 _ _ rfl (w1.heap.size+1+1) u1 rfl rfl 59 _ f1 (by rw[s1];kernel_rfl) (by rw[s1];rfl) o1 ?_)
   | (refine wpList_load_row rfl 59 _ rfl (w1.heap.size+1+1) rfl 59 u1 (0,0) _ f2 Tryz.underlying59 rfl (by rw[s1];kernel_rfl) ?_)
   | (refine Qju rfl _ _ rfl w1.heap.size (.agg u1) (#[].push { key:=.agg u0,val:=.int .i64 0,born:=0 }) 1 (some (0,.int .i64 0)) (.tuple #[.int .i64 0,.bool true]) rfl rfl rfl k1 f3 (by simp[Instr.findAsking,e10]) ?_))
  refine bodyPost_ret (v:=.tuple #[.int .i64 0,.int .i64 1,.int .i64 0]) (by simp[results,Tryz.results162,go_sem]) rfl ⟨rfl,f4⟩
 case false =>
  obtain⟨f1,f2,f3,f4,f5⟩:=Qhe w W1 (w1.heap.size+1+1) w1.heap.size n hz1 (by omega) (by omega) (by omega) HB.out.size (#[].push { key:=.agg u0,val:=.int .i64 0,born:=0 }) 1 C u1 _ (z9 u1 s1) g1 m1 HW1;rw[rounds_succ]
  go_wp2_with (first
   | (refine Qeg (by kernel_rfl) 59 _ rfl n 9 rfl 59 C u1 (0,0) _ g1 Tryz.underlying59 rfl (by rw[s1];kernel_rfl) t1 ?_)
   | (refine wpList_store_row rfl 59 _ _ rfl (w1.heap.size+1+1) u1 rfl rfl 59 _ f1 (by rw[s1];kernel_rfl) (by rw[s1];rfl) o1 ?_)
   | (refine wpList_load_row rfl 59 _ rfl (w1.heap.size+1+1) rfl 59 u1 (0,0) _ f2 Tryz.underlying59 rfl (by rw[s1];kernel_rfl) ?_)
   | (refine Qju rfl _ _ rfl w1.heap.size (.agg u1) (#[].push { key:=.agg u0,val:=.int .i64 0,born:=0 }) 1 (none) (.tuple #[.int .i64 0,.bool false]) rfl rfl rfl k1 f3 (by simp[Instr.findAsking,e10]) ?_)
   | (refine Qua rfl _ _ _ rfl w1.heap.size (.agg u1) (.int .i64 1) (#[].push { key:=.agg u0,val:=.int .i64 0,born:=0 }) 1 rfl rfl rfl k1 f3 (by simp[Instr.findAsking,e10]) ?_;intro W2 hW2;replace hW2:=hid hW2))
  obtain⟨hz2,g2,m2,HW2⟩:=f5 _ W2 hW2.out;clear f1 f2 f3 f4 f5 hW2;cases q20
  case true =>
   obtain⟨f1,f2,f3,f4,f5⟩:=Qhe w W2 (w1.heap.size+1+1+1) w1.heap.size n hz2 (by omega) (by omega) (by omega) HB.out.size ((#[].push { key:=.agg u0,val:=.int .i64 0,born:=0 }).push { key:=.agg u1,val:=.int .i64 1,born:=1 }) 2 C u2 _ (z9 u2 s2) g2 m2 HW2;rw[rounds_succ]
   go_wp2_with (first
    | (refine Qeg (by kernel_rfl) 59 _ rfl n 18 rfl 59 C u2 (0,0) _ g2 Tryz.underlying59 rfl (by rw[s2];kernel_rfl) t2 ?_)
    | (refine wpList_store_row rfl 59 _ _ rfl (w1.heap.size+1+1+1) u2 rfl rfl 59 _ f1 (by rw[s2];kernel_rfl) (by rw[s2];rfl) o2 ?_)
    | (refine wpList_load_row rfl 59 _ rfl (w1.heap.size+1+1+1) rfl 59 u2 (0,0) _ f2 Tryz.underlying59 rfl (by rw[s2];kernel_rfl) ?_)
    | (refine Qju rfl _ _ rfl w1.heap.size (.agg u2) ((#[].push { key:=.agg u0,val:=.int .i64 0,born:=0 }).push { key:=.agg u1,val:=.int .i64 1,born:=1 }) 2 (some (0,.int .i64 0)) (.tuple #[.int .i64 0,.bool true]) rfl rfl rfl k2 f3 (by simp[Instr.findAsking,e20]) ?_))
   refine bodyPost_ret (v:=.tuple #[.int .i64 0,.int .i64 2,.int .i64 0]) (by simp[results,Tryz.results162,go_sem]) rfl ⟨rfl,f4⟩
  case false =>
   cases q21
   case true =>
    obtain⟨f1,f2,f3,f4,f5⟩:=Qhe w W2 (w1.heap.size+1+1+1) w1.heap.size n hz2 (by omega) (by omega) (by omega) HB.out.size ((#[].push { key:=.agg u0,val:=.int .i64 0,born:=0 }).push { key:=.agg u1,val:=.int .i64 1,born:=1 }) 2 C u2 _ (z9 u2 s2) g2 m2 HW2;rw[rounds_succ]
    go_wp2_with (first
     | (refine Qeg (by kernel_rfl) 59 _ rfl n 18 rfl 59 C u2 (0,0) _ g2 Tryz.underlying59 rfl (by rw[s2];kernel_rfl) t2 ?_)
     | (refine wpList_store_row rfl 59 _ _ rfl (w1.heap.size+1+1+1) u2 rfl rfl 59 _ f1 (by rw[s2];kernel_rfl) (by rw[s2];rfl) o2 ?_)
     | (refine wpList_load_row rfl 59 _ rfl (w1.heap.size+1+1+1) rfl 59 u2 (0,0) _ f2 Tryz.underlying59 rfl (by rw[s2];kernel_rfl) ?_)
     | (refine Qju rfl _ _ rfl w1.heap.size (.agg u2) ((#[].push { key:=.agg u0,val:=.int .i64 0,born:=0 }).push { key:=.agg u1,val:=.int .i64 1,born:=1 }) 2 (some (1,.int .i64 1)) (.tuple #[.int .i64 1,.bool true]) rfl rfl rfl k2 f3 (by simp[Instr.findAsking,e20,e21]) ?_))
    refine bodyPost_ret (v:=.tuple #[.int .i64 1,.int .i64 2,.int .i64 0]) (by simp[results,Tryz.results162,go_sem]) rfl ⟨rfl,f4⟩
   case false =>
    obtain⟨f1,f2,f3,f4,f5⟩:=Qhe w W2 (w1.heap.size+1+1+1) w1.heap.size n hz2 (by omega) (by omega) (by omega) HB.out.size ((#[].push { key:=.agg u0,val:=.int .i64 0,born:=0 }).push { key:=.agg u1,val:=.int .i64 1,born:=1 }) 2 C u2 _ (z9 u2 s2) g2 m2 HW2;rw[rounds_succ]
    go_wp2_with (first
     | (refine Qeg (by kernel_rfl) 59 _ rfl n 18 rfl 59 C u2 (0,0) _ g2 Tryz.underlying59 rfl (by rw[s2];kernel_rfl) t2 ?_)
     | (refine wpList_store_row rfl 59 _ _ rfl (w1.heap.size+1+1+1) u2 rfl rfl 59 _ f1 (by rw[s2];kernel_rfl) (by rw[s2];rfl) o2 ?_)
     | (refine wpList_load_row rfl 59 _ rfl (w1.heap.size+1+1+1) rfl 59 u2 (0,0) _ f2 Tryz.underlying59 rfl (by rw[s2];kernel_rfl) ?_)
     | (refine Qju rfl _ _ rfl w1.heap.size (.agg u2) ((#[].push { key:=.agg u0,val:=.int .i64 0,born:=0 }).push { key:=.agg u1,val:=.int .i64 1,born:=1 }) 2 (none) (.tuple #[.int .i64 0,.bool false]) rfl rfl rfl k2 f3 (by simp[Instr.findAsking,e20,e21]) ?_)
     | (refine Qua rfl _ _ _ rfl w1.heap.size (.agg u2) (.int .i64 2) ((#[].push { key:=.agg u0,val:=.int .i64 0,born:=0 }).push { key:=.agg u1,val:=.int .i64 1,born:=1 }) 2 rfl rfl rfl k2 f3 (by simp[Instr.findAsking,e20,e21]) ?_;intro W3 hW3;replace hW3:=hid hW3))
    obtain⟨hz3,g3,m3,HW3⟩:=f5 _ W3 hW3.out;clear f1 f2 f3 f4 f5 hW3;rw[rounds_succ]
    go_wp2_with fail
    refine bodyPost_ret (v:=.tuple #[.int .i64 0,.int .i64 0,.int .i64 7]) (by simp[results,Tryz.results162,go_sem]) rfl ⟨rfl,HW3⟩
def Uhf(w:World)(i n1 n2 n3 n4 j m1 m2 m3 m4:Bool)(s1 s2 s3 s4 t1 t2 t3 t4:ByteArray)(r:Bool)(hr:r=true↔Value.agg #[.bool i,.bool n1,.string s1,.bool n2,.string s2,.bool n3,.string s3,.bool n4,.string s4]=.agg #[.bool j,.bool m1,.string t1,.bool m2,.string t2,.bool m3,.string t3,.bool m4,.string t4]) :
  (Op.equal 59 (.agg #[.bool i,.bool n1,.string s1,.bool n2,.string s2,.bool n3,.string s3,.bool n4,.string s4]) (.agg #[.bool j,.bool m1,.string t1,.bool m2,.string t2,.bool m3,.string t3,.bool m4,.string t4])).run prog w=.ok r w:=by
 have h:=Koh w i n1 n2 n3 n4 j m1 m2 m3 m4 s1 s2 s3 s4 t1 t2 t3 t4 r hr;generalize (#[.bool i,.bool n1,.string s1,.bool n2,.string s2,.bool n3,.string s3,.bool n4,.string s4]:Array Value)=a at h ⊢;generalize (#[.bool j,.bool m1,.string t1,.bool m2,.string t2,.bool m3,.string t3,.bool m4,.string t4]:Array Value)=b at h ⊢;have e:binOp .eql 59 (.agg a) (.agg b)=(do let v ←Op.equal 59 (.agg a) (.agg b);pure (.bool v)):=rfl;rw[e,Sem.run_bind] at h;cases hq:(Op.equal 59 (.agg a) (.agg b)).run prog w with
 | ok v w'=>rw[hq] at h;simpa[Result.andThen] using h
 | halt v w'=>rw[hq] at h;simp[Result.andThen] at h
def ptU(z:QC):List Value:=(Qtm (some z)).vals
def Kgf(z:QC):Ucg (.agg (ptU z).toArray):=fun em w=>by kernel_rfl
def Ktk(x z:QC)(r:Bool)(hr:r=true↔x=z)(w:World):(Op.equal 59 (.agg (ptU x).toArray) (.agg (ptU z).toArray)).run prog w=.ok r w :=
 Uhf w _ _ _ _ _ _ _ _ _ _ _ _ _ _ _ _ _ _ r (by
  rw[hr];refine⟨fun h=>by rw[h],fun h=>?_⟩;have h':(Qtm (some x)).val=(Qtm (some z)).val:=h;have h2:=Kkm h';exact Qdk.1 (congrArg Quy.g h2))
def Qsf(x z w:QC)(sx:Qac x)(sz:Qac z)(sw:Qac w)(q10 q20 q21:Bool)(h1:q10=true↔z=x)(h2:q20=true↔w=x)(h3:q21=true↔w=z)(r:FV)
  (hr:∀ w' A,r.R (if q10 then .tuple #[.int .i64 0,.int .i64 1,.int .i64 0] else if q20 then .tuple #[.int .i64 0,.int .i64 2,.int .i64 0] else if q21 then .tuple #[.int .i64 1,.int .i64 2,.int .i64 0] else .tuple #[.int .i64 0,.int .i64 0,.int .i64 7]) w' A) :
  SMt 162 [([gl (.bool false)]++(Qah x).cells++[gl (.bool false)]++(Qah z).cells++[gl (.bool false)]++(Qah w).cells,59)] [.sl 0 0 3 3] r :=
 ⟨eo162,fun σ W A vs hR hA hbl hbey hu=>by
  match vs,hu with
  | [v],hu =>
   obtain⟨⟨m,hm,rfl⟩,_⟩:=hu;obtain⟨n,us,hn,hAn,hh,hg⟩:=hbl 0 _ _ rfl;rw[hm] at hn;cases hn;have e:Value.agg us.toArray=.agg (ptU x++ptU z++ptU w).toArray:=(FR.val_ok (u:=.agg (ptU x++ptU z++ptU w).toArray) (x:=.row ([gl (.bool false)]++(Qah x).cells++[gl (.bool false)]++(Qah z).cells++[gl (.bool false)]++(Qah w).cells)) (by kernel_rfl)).1 ⟨us,rfl,hg⟩;have e':us.toArray=(ptU x++ptU z++ptU w).toArray:=by injection e
   have hck:Calls prog 207 #[.slice (some ⟨m,0,none⟩) 3 3] W fun e w'=>e=.returned (.int .i64 0)/\Below W.heap.size W w' :=
    ((Uhj x z w sx sz sw).ok σ W A [.slice (some ⟨m,0,none⟩) 3 3] hR hA hbl hbey ⟨⟨m,hm,rfl⟩,trivial⟩).mono fun r' w' ⟨v,h1,h2,h3⟩=>⟨by rw[h1,(FV.val_ok (u:=.int .i64 0) (by kernel_rfl)).1 h2],h3⟩
   refine(Kms m us.toArray (ptU x).toArray (ptU z).toArray (ptU w).toArray W hh rfl rfl rfl (by rw[e'];rfl) (by rw[e'];rfl) (by rw[e'];rfl) (by kernel_rfl) (by kernel_rfl) (by kernel_rfl) (Kgf x) (Kgf z) (Kgf w) hck q10 q20 q21 (Ktk z x q10 h1) (Ktk w x q20 h2) (Ktk w z q21 h3)).mono ?_;rintro e w' ⟨rfl,hb⟩;exact⟨_,rfl,hr w' A,hb⟩⟩
def Kqw(x z w:QC)(sx:Qac x)(sz:Qac z)(sw:Qac w)(h:x=z):SMt 162 [([gl (.bool false)]++(Qah x).cells++[gl (.bool false)]++(Qah z).cells++[gl (.bool false)]++(Qah w).cells,59)] [.sl 0 0 3 3] (.tup [gIi 0,gIi 1,gIi 0]) :=
 Qsf x z w sx sz sw true (decide (w=x)) (decide (w=z)) (tI h.symm) decide_eq_true_iff decide_eq_true_iff _ fun w' A=>(FV.val_ok (u:=.tuple #[.int .i64 0,.int .i64 1,.int .i64 0]) (by kernel_rfl)).2 rfl
def Kqx(x z w:QC)(sx:Qac x)(sz:Qac z)(sw:Qac w)(h:¬(x=z))(h2:x=w):SMt 162 [([gl (.bool false)]++(Qah x).cells++[gl (.bool false)]++(Qah z).cells++[gl (.bool false)]++(Qah w).cells,59)] [.sl 0 0 3 3] (.tup [gIi 0,gIi 2,gIi 0]) :=
 Qsf x z w sx sz sw false true (decide (w=z)) (fI fun e=>h e.symm) (tI h2.symm) decide_eq_true_iff _ fun w' A=>(FV.val_ok (u:=.tuple #[.int .i64 0,.int .i64 2,.int .i64 0]) (by kernel_rfl)).2 rfl
def Kqy(x z w:QC)(sx:Qac x)(sz:Qac z)(sw:Qac w)(h:¬(x=z))(h2:¬(x=w))(h3:¬(z=w)):SMt 162 [([gl (.bool false)]++(Qah x).cells++[gl (.bool false)]++(Qah z).cells++[gl (.bool false)]++(Qah w).cells,59)] [.sl 0 0 3 3] (.tup [gIi 0,gIi 0,gIi 7]) :=
 Qsf x z w sx sz sw false false false (fI fun e=>h e.symm) (fI fun e=>h2 e.symm) (fI fun e=>h3 e.symm) _ fun w' A=>(FV.val_ok (u:=.tuple #[.int .i64 0,.int .i64 0,.int .i64 7]) (by kernel_rfl)).2 rfl
end Go.Proofs.YtcjjdooeogmdbaaGreat
namespace Go.Proofs.YtcjjdooeogmdbaaGreat
open Go.RowKit Tr Proofs.Tryz
open Classical
def Kzs(z x w:QC)(b_z:Qac z)(b_x:Qac x)(b_w:Qac w)(hz:hN1 z)(hx:hN1 x)(hw:hN1 w)(e1:x=z) :SCt 79 [gIi 1,.row ((Qah z).cells),.row ((Qah x).cells),.row ((Qah w).cells)] (.tup [gTt,gIi 0]) :=
  Qbn (L := [(Qah z).cells,(Qah x).cells,(Qah w).cells,(Qah (⟨0,1⟩ : QC)).cells,(Qah (⟨0,0⟩ : QC)).cells,cn z,[gr z.re,gr z.im,gxi z.im.num.sign],cn x,[gr x.re,gr x.im,gxi x.im.num.sign],cn w,[gr w.re,gr w.im,gxi w.im.num.sign]].flatten) Qai Qap
     [Qfk eo45,gpi 0 1 24,gpi 0 0 32,gs (Qew z b_z) [yR 0 8] (.tup [sy [40,41],cTt]),gs (Qbs z ((Qaa b_z).mn)) [sy [40,41]] (.tup [cS 42,cS 43]),gs (Qau z.im) [cS 43] (rS 44),gs (Qew x b_x) [yR 8 8] (.tup [sy [45,46],cTt]),gs (Qbs x ((Qaa b_x).mn)) [sy [45,46]] (.tup [cS 47,cS 48]),gs (Qau x.im) [cS 48] (rS 49),gs (Qew w b_w) [yR 16 8] (.tup [sy [50,51],cTt]),gs (Qbs w ((Qaa b_w).mn)) [sy [50,51]] (.tup [cS 52,cS 53]),gs (Qau w.im) [cS 53] (rS 54),
      gsm (Kqw x z w b_x b_z b_w e1) [20] [⟨flA [[.lit (.bool false)],Qba 8 8,[.lit (.bool false)],Qba 0 8,[.lit (.bool false)],Qba 16 8],59,none⟩] [.c (.sl 0 0 3 3)] (.tup [lc 0,lc 1,lc 0])]
     [bLf 3 44 hz,bLf 3 49 hx,bLf 3 54 hw] [] Qrd 1 4 func79 eo79 2000 [lc 1,yR 0 8,yR 8 8,yR 16 8] (.tup [cTt,lc 0])
def Uuq(z x w:QC)(b_z:Qac z)(b_x:Qac x)(b_w:Qac w)(hz:hN1 z)(hx:hN1 x)(hw:hN1 w)(e1:x=z):SCt 79 [gIi 1,.row ((Qah z).cells),.row ((Qah x).cells),.row ((Qah w).cells)] (.tup [gTt,gIi 0]) :=
 Kzs z x w b_z b_x b_w hz hx hw e1
def Kzu(z x w:QC)(b_z:Qac z)(b_x:Qac x)(b_w:Qac w)(hz:hN1 z)(hx:hN1 x)(hw:hN1 w)(e1:¬(x=z))(e2:x=w) :SCt 79 [gIi 1,.row ((Qah z).cells),.row ((Qah x).cells),.row ((Qah w).cells)] (.tup [gTt,gIi 0]) :=
  Qbn (L := [(Qah z).cells,(Qah x).cells,(Qah w).cells,(Qah (⟨0,1⟩ : QC)).cells,(Qah (⟨0,0⟩ : QC)).cells,cn z,[gr z.re,gr z.im,gxi z.im.num.sign],cn x,[gr x.re,gr x.im,gxi x.im.num.sign],cn w,[gr w.re,gr w.im,gxi w.im.num.sign]].flatten) Qai Qap
     [Qfk eo45,gpi 0 1 24,gpi 0 0 32,gs (Qew z b_z) [yR 0 8] (.tup [sy [40,41],cTt]),gs (Qbs z ((Qaa b_z).mn)) [sy [40,41]] (.tup [cS 42,cS 43]),gs (Qau z.im) [cS 43] (rS 44),gs (Qew x b_x) [yR 8 8] (.tup [sy [45,46],cTt]),gs (Qbs x ((Qaa b_x).mn)) [sy [45,46]] (.tup [cS 47,cS 48]),gs (Qau x.im) [cS 48] (rS 49),gs (Qew w b_w) [yR 16 8] (.tup [sy [50,51],cTt]),gs (Qbs w ((Qaa b_w).mn)) [sy [50,51]] (.tup [cS 52,cS 53]),gs (Qau w.im) [cS 53] (rS 54),
      gsm (Kqx x z w b_x b_z b_w e1 e2) [20] [⟨flA [[.lit (.bool false)],Qba 8 8,[.lit (.bool false)],Qba 0 8,[.lit (.bool false)],Qba 16 8],59,none⟩] [.c (.sl 0 0 3 3)] (.tup [lc 0,lc 2,lc 0])]
     [bLf 3 44 hz,bLf 3 49 hx,bLf 3 54 hw] [] Qrd 1 4 func79 eo79 2000 [lc 1,yR 0 8,yR 8 8,yR 16 8] (.tup [cTt,lc 0])
def Uus(z x w:QC)(b_z:Qac z)(b_x:Qac x)(b_w:Qac w)(hz:hN1 z)(hx:hN1 x)(hw:hN1 w)(e1:¬(x=z))(e2:x=w):SCt 79 [gIi 1,.row ((Qah z).cells),.row ((Qah x).cells),.row ((Qah w).cells)] (.tup [gTt,gIi 0]) :=
 Kzu z x w b_z b_x b_w hz hx hw e1 e2
def Uir(z x:QC):Rat:=((nm (x-z))/(x.im*z.im))*(2:Rat)
def Khf(z x:QC)(b_z:Qac z)(b_x:Qac x)(hz:hN1 z)(hx:hN1 x):RL (Uir z x) 20490:=(Qab ((nm (x-z))/(x.im*z.im)) (2:Rat) (Qbb (pne (Qdv (Qdf hx) (Qdf hz))) (Qal (Qbi (Qaa b_x) (Qaa b_z))) (Qab x.im z.im (Qag x (Qaa b_x)) (Qag z (Qaa b_z)))) (ri 2)).mn
def Kah(z x:QC):Rat:=(1:Rat)+((Uir z x)/(4:Rat))
def Qkp(z x:QC)(b_z:Qac z)(b_x:Qac x)(hz:hN1 z)(hx:hN1 x):RL (Kah z x) 40985:=(Qaw (1:Rat) ((Uir z x)/(4:Rat)) (ri 1) (Qbb (by decide +kernel) (Khf z x b_z b_x hz hx) (rj 4))).mn
def Klq(z x:QC):Rat:=((Kah z x)*(Kah z x))-(1:Rat)
def Kvo(z x:QC)(b_z:Qac z)(b_x:Qac x)(hz:hN1 z)(hx:hN1 x):RL (Klq z x) 163941:=(Qae ((Kah z x)*(Kah z x)) (1:Rat) (Qab (Kah z x) (Kah z x) (Qkp z x b_z b_x hz hx) (Qkp z x b_z b_x hz hx)) (ri 1)).mn
def Qmg(z x w:QC):Rat:=(wt6 z w)-((Kah z x)*(wt4 x w))
def Kai(z x w:QC)(b_z:Qac z)(b_x:Qac x)(b_w:Qac w)(hz:hN1 z)(hx:hN1 x)(hw:hN1 w):RL (Qmg z x w) 163941:=(Qae (wt6 z w) ((Kah z x)*(wt4 x w)) ((Kls z w b_z b_w hz hw).mn) (Qab (Kah z x) (wt4 x w) (Qkp z x b_z b_x hz hx) (Qht x w b_x b_w hx hw))).mn
def Qys(z x w:QC):List GF:=[(Qah z).cells,(Qah x).cells,(Qah w).cells,(Qah (⟨0,1⟩:QC)).cells,(Qah (⟨0,0⟩:QC)).cells,cn z,[gr z.re,gr z.im,gxi z.im.num.sign],cn x,[gr x.re,gr x.im,gxi x.im.num.sign],cn w,[gr w.re,gr w.im,gxi w.im.num.sign],cn (x-z),[gr (nm (x-z)),gr (x.im*z.im),gr ((nm (x-z))/(x.im*z.im)),gr (1:Rat),gr (2:Rat),gr (Uir z x),gr (4:Rat),gr ((Uir z x)/(4:Rat)),gr (Kah z x)],cn (x-w),[gr (nm (x-w)),gr (x.im*w.im),gr ((nm (x-w))/(x.im*w.im)),gr (wt3 x w),gr ((wt3 x w)/(4:Rat)),gr (wt4 x w)],cn (z-w),[gr (nm (z-w)),gr (z.im*w.im),gr ((nm (z-w))/(z.im*w.im)),gr (wt5 z w),gr ((wt5 z w)/(4:Rat)),gr (wt6 z w),gr ((Kah z x)*(Kah z x)),gr (Klq z x),gr ((wt4 x w)*(wt4 x w)),gr (wt8 x w),gr ((Klq z x)*(wt8 x w)),gr ((Kah z x)*(wt4 x w)),gr (Qmg z x w),gxi ((Qmg z x w).num.sign),gr ((Qmg z x w)*(Qmg z x w)),gxi (Qff ((Qmg z x w)*(Qmg z x w)) ((Klq z x)*(wt8 x w)))]].flatten
noncomputable def Qyt(z x w:QC)(b_z:Qac z)(b_x:Qac x)(b_w:Qac w)(hz:hN1 z)(hx:hN1 x)(hw:hN1 w)(e1:¬(x=z))(e2:¬(x=w))(e3:¬(z=w)):List (GC prog (Qys z x w) true):=[Qfk eo45,gpi 0 1 24,gpi 0 0 32,gs (Qew z b_z) [yR 0 8] (.tup [sy [40,41],cTt]),gs (Qbs z ((Qaa b_z).mn)) [sy [40,41]] (.tup [cS 42,cS 43]),gs (Qau z.im) [cS 43] (rS 44),gs (Qew x b_x) [yR 8 8] (.tup [sy [45,46],cTt]),gs (Qbs x ((Qaa b_x).mn)) [sy [45,46]] (.tup [cS 47,cS 48]),gs (Qau x.im) [cS 48] (rS 49),gs (Qew w b_w) [yR 16 8] (.tup [sy [50,51],cTt]),gs (Qbs w ((Qaa b_w).mn)) [sy [50,51]] (.tup [cS 52,cS 53]),gs (Qau w.im) [cS 53] (rS 54),
   gsm (Kqy x z w b_x b_z b_w e1 e2 e3) [20] [⟨flA [[.lit (.bool false)],Qba 8 8,[.lit (.bool false)],Qba 0 8,[.lit (.bool false)],Qba 16 8],59,none⟩] [.c (.sl 0 0 3 3)] (.tup [lc 0,lc 0,lc 7]),gs (Qeo x z (Qaa b_x) (Qaa b_z) (by decide)) [sy [45,46],sy [40,41]] (.r (sy [55,56])),gs (Qbw _ ((Qbi (Qaa b_x) (Qaa b_z)).mn)) [sy [55,56]] (rS 57),gs (Qan _ _ ((Qag x (Qaa b_x)).mn) ((Qag z (Qaa b_z)).mn)) [cS 48,cS 43] (rS 58),gs (Qbe _ _ ((Qal (Qbi (Qaa b_x) (Qaa b_z))).mn) ((Qab x.im z.im (Qag x (Qaa b_x)) (Qag z (Qaa b_z))).mn) (pne (Qdv (Qdf hx) (Qdf hz)))) [cS 57,cS 58] (rS 59),gs (pnr 1) [lc 1,lc 1] (rS 60),gs (pnr 2) [lc 2,lc 1] (rS 61),gs (Qan _ (2:Rat) ((Qbb (pne (Qdv (Qdf hx) (Qdf hz))) (Qal (Qbi (Qaa b_x) (Qaa b_z))) (Qab x.im z.im (Qag x (Qaa b_x)) (Qag z (Qaa b_z)))).mn) (ri 2)) [cS 59,cS 61] (rS 62),gs (pnr 4) [lc 4,lc 1] (rS 63),gs (Qbe _ (4:Rat) ((Khf z x b_z b_x hz hx).mn) (ri 4) (by decide +kernel)) [cS 62,cS 63] (rS 64),gs (Qfz (1:Rat) _ (ri 1) ((Qbb (by decide +kernel) (Khf z x b_z b_x hz hx) (rj 4)).mn)) [cS 60,cS 64] (rS 65),gs (Qeo x w (Qaa b_x) (Qaa b_w) (by decide)) [sy [45,46],sy [50,51]] (.r (sy [66,67])),gs (Qbw _ ((Qbi (Qaa b_x) (Qaa b_w)).mn)) [sy [66,67]] (rS 68),gs (Qan _ _ ((Qag x (Qaa b_x)).mn) ((Qag w (Qaa b_w)).mn)) [cS 48,cS 53] (rS 69),gs (Qbe _ _ ((Qal (Qbi (Qaa b_x) (Qaa b_w))).mn) ((Qab x.im w.im (Qag x (Qaa b_x)) (Qag w (Qaa b_w))).mn) (pne (Qdv (Qdf hx) (Qdf hw)))) [cS 68,cS 69] (rS 70),gs (Qan _ (2:Rat) ((Qbb (pne (Qdv (Qdf hx) (Qdf hw))) (Qal (Qbi (Qaa b_x) (Qaa b_w))) (Qab x.im w.im (Qag x (Qaa b_x)) (Qag w (Qaa b_w)))).mn) (ri 2)) [cS 70,cS 61] (rS 71),gs (Qbe _ (4:Rat) ((Kej x w b_x b_w hx hw).mn) (ri 4) (by decide +kernel)) [cS 71,cS 63] (rS 72),gs (Qfz (1:Rat) _ (ri 1) ((Qbb (by decide +kernel) (Kej x w b_x b_w hx hw) (rj 4)).mn)) [cS 60,cS 72] (rS 73),gs (Qeo z w (Qaa b_z) (Qaa b_w) (by decide)) [sy [40,41],sy [50,51]] (.r (sy [74,75])),gs (Qbw _ ((Qbi (Qaa b_z) (Qaa b_w)).mn)) [sy [74,75]] (rS 76),gs (Qan _ _ ((Qag z (Qaa b_z)).mn) ((Qag w (Qaa b_w)).mn)) [cS 43,cS 53] (rS 77),gs (Qbe _ _ ((Qal (Qbi (Qaa b_z) (Qaa b_w))).mn) ((Qab z.im w.im (Qag z (Qaa b_z)) (Qag w (Qaa b_w))).mn) (pne (Qdv (Qdf hz) (Qdf hw)))) [cS 76,cS 77] (rS 78),gs (Qan _ (2:Rat) ((Qbb (pne (Qdv (Qdf hz) (Qdf hw))) (Qal (Qbi (Qaa b_z) (Qaa b_w))) (Qab z.im w.im (Qag z (Qaa b_z)) (Qag w (Qaa b_w)))).mn) (ri 2)) [cS 78,cS 61] (rS 79),gs (Qbe _ (4:Rat) ((Kek z w b_z b_w hz hw).mn) (ri 4) (by decide +kernel)) [cS 79,cS 63] (rS 80),gs (Qfz (1:Rat) _ (ri 1) ((Qbb (by decide +kernel) (Kek z w b_z b_w hz hw) (rj 4)).mn)) [cS 60,cS 80] (rS 81),gs (Qan _ _ ((Qkp z x b_z b_x hz hx).mn) ((Qkp z x b_z b_x hz hx).mn)) [cS 65,cS 65] (rS 82),gs (Qaz _ (1:Rat) ((Qab (Kah z x) (Kah z x) (Qkp z x b_z b_x hz hx) (Qkp z x b_z b_x hz hx)).mn) (ri 1)) [cS 82,cS 60] (rS 83),gs (Qan _ _ ((Qht x w b_x b_w hx hw).mn) ((Qht x w b_x b_w hx hw).mn)) [cS 73,cS 73] (rS 84),gs (Qaz _ (1:Rat) ((Qab (wt4 x w) (wt4 x w) (Qht x w b_x b_w hx hw) (Qht x w b_x b_w hx hw)).mn) (ri 1)) [cS 84,cS 60] (rS 85),gs (Qan _ _ ((Kvo z x b_z b_x hz hx).mn) ((Kel x w b_x b_w hx hw).mn)) [cS 83,cS 85] (rS 86),gs (Qan _ _ ((Qkp z x b_z b_x hz hx).mn) ((Qht x w b_x b_w hx hw).mn)) [cS 65,cS 73] (rS 87),gs (Qaz _ _ ((Kls z w b_z b_w hz hw).mn) ((Qab (Kah z x) (wt4 x w) (Qkp z x b_z b_x hz hx) (Qht x w b_x b_w hx hw)).mn)) [cS 81,cS 87] (rS 88),gs (Qau (Qmg z x w)) [cS 88] (rS 89),gs (Qan _ _ ((Kai z x w b_z b_x b_w hz hx hw).mn) ((Kai z x w b_z b_x b_w hz hx hw).mn)) [cS 88,cS 88] (rS 90),gs (Kdc ((Qmg z x w)*(Qmg z x w)) ((Klq z x)*(wt8 x w)) (Qab (Qmg z x w) (Qmg z x w) (Kai z x w b_z b_x b_w hz hx hw) (Kai z x w b_z b_x b_w hz hx hw)) (Qab (Klq z x) (wt8 x w) (Kvo z x b_z b_x hz hx) (Kel x w b_x b_w hx hw)) (by decide)) [cS 90,cS 86] (rS 91)]
def Kzw(z x w:QC)(b_z:Qac z)(b_x:Qac x)(b_w:Qac w)(hz:hN1 z)(hx:hN1 x)(hw:hN1 w)(e1:¬(x=z))(e2:¬(x=w))(e3:¬(z=w))(h0:((Qmg z x w).num.sign)>0)(h1:(Qff ((Qmg z x w)*(Qmg z x w)) ((Klq z x)*(wt8 x w)))=0):SCt 79 [gIi 1,.row ((Qah z).cells),.row ((Qah x).cells),.row ((Qah w).cells)] (.tup [gTt,gIi 0]) :=
  Qbn (L := Qys z x w) Qai Qap
     (Qyt z x w b_z b_x b_w hz hx hw e1 e2 e3)
     [bLf 3 44 hz,bLf 3 49 hx,bLf 3 54 hw,gtY 3 (.sym 89) (li 0) ((Qmg z x w).num.sign) 0 h0,bI .eql 3 (.sym 91) (li 0) (Qff ((Qmg z x w)*(Qmg z x w)) ((Klq z x)*(wt8 x w))) 0 true (by simp[Qch,h1])] [] Qrd 1 4 func79 eo79 2000 [lc 1,yR 0 8,yR 8 8,yR 16 8] (.tup [cTt,lc 0])
def Kzx(z x w:QC)(b_z:Qac z)(b_x:Qac x)(b_w:Qac w)(hz:hN1 z)(hx:hN1 x)(hw:hN1 w)(e1:¬(x=z))(e2:¬(x=w))(e3:¬(z=w))(h0:¬(((Qmg z x w).num.sign)>0)):SCt 79 [gIi 1,.row ((Qah z).cells),.row ((Qah x).cells),.row ((Qah w).cells)] (.tup [gFf,gIi 0]) :=
  Qbn (L := Qys z x w) Qai Qap
     (Qyt z x w b_z b_x b_w hz hx hw e1 e2 e3)
     [bLf 3 44 hz,bLf 3 49 hx,bLf 3 54 hw,gtN 3 (.sym 89) (li 0) ((Qmg z x w).num.sign) 0 h0] [] Qrd 1 4 func79 eo79 2000 [lc 1,yR 0 8,yR 8 8,yR 16 8] (.tup [cFf,lc 0])
def Kzy(z x w:QC)(b_z:Qac z)(b_x:Qac x)(b_w:Qac w)(hz:hN1 z)(hx:hN1 x)(hw:hN1 w)(e1:¬(x=z))(e2:¬(x=w))(e3:¬(z=w))(h0:((Qmg z x w).num.sign)>0)(h1:¬((Qff ((Qmg z x w)*(Qmg z x w)) ((Klq z x)*(wt8 x w)))=0)):SCt 79 [gIi 1,.row ((Qah z).cells),.row ((Qah x).cells),.row ((Qah w).cells)] (.tup [gFf,gIi 0]) :=
  Qbn (L := Qys z x w) Qai Qap
     (Qyt z x w b_z b_x b_w hz hx hw e1 e2 e3)
     [bLf 3 44 hz,bLf 3 49 hx,bLf 3 54 hw,gtY 3 (.sym 89) (li 0) ((Qmg z x w).num.sign) 0 h0,bI .eql 3 (.sym 91) (li 0) (Qff ((Qmg z x w)*(Qmg z x w)) ((Klq z x)*(wt8 x w))) 0 false (by simp[Qch,h1])] [] Qrd 1 4 func79 eo79 2000 [lc 1,yR 0 8,yR 8 8,yR 16 8] (.tup [cFf,lc 0])
def Uuu(z x w:QC)(b_z:Qac z)(b_x:Qac x)(b_w:Qac w)(hz:hN1 z)(hx:hN1 x)(hw:hN1 w)(e1:¬(x=z))(e2:¬(x=w))(e3:¬(z=w)):SCt 79 [gIi 1,.row ((Qah z).cells),.row ((Qah x).cells),.row ((Qah w).cells)] (if((Qmg z x w).num.sign)>0/\(Qff ((Qmg z x w)*(Qmg z x w)) ((Klq z x)*(wt8 x w)))=0 then .tup [gTt,gIi 0] else .tup [gFf,gIi 0]) :=
  (Classical.em (((Qmg z x w).num.sign)>0)).elim (fun h0=>(Classical.em ((Qff ((Qmg z x w)*(Qmg z x w)) ((Klq z x)*(wt8 x w)))=0)).elim (fun h1=>.it ⟨h0,h1⟩ (Kzw z x w b_z b_x b_w hz hx hw e1 e2 e3 h0 h1))
   (fun h1=>.ie (fun h=>h1 h.2) (Kzy z x w b_z b_x b_w hz hx hw e1 e2 e3 h0 h1)))
   (fun h0=>.ie (fun h=>h0 h.1) (Kzx z x w b_z b_x b_w hz hx hw e1 e2 e3 h0))
