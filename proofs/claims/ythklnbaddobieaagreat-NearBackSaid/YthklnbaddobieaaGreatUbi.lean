/- NearBack: the row. -/
import Derived.Test.YthklnbaddobieaaGreatUbh
import Derived.ProofKit
import Derived.OpenShut
import Derived.ShutString
import Derived.ChangeOld
import Derived.Lib.SmallJoins
import Derived.Laws.Cover2
set_option linter.unusedVariables false
set_option maxHeartbeats 4000000
namespace Go.Proofs.YthklnbaddobieaaGreat
open Go.ChangeShapes Go.WideShapes Go.ChangeAt Go.RowKit Go.Deep Go.Joins
theorem Tryz.own:ownKnob Tryz.prog.godebug=none:=by kernel_rfl
theorem Tryz.laidOut:laidOutB Tryz.prog=true:=by kernel_rfl
section
variable{H:Type}{enc:TypeId×Value→H}{w:World}{base:Nat}{spare:Nat→Bool}{held:Bool}
theorem open_fields{t:TypeId}{fs:Array Field}{fuel:Nat}{cs:List Value}{x:DataW H×List MemPlace}(ht:(Tryz.prog).underlying t=some (.struct fs))(h:DataW.trod enc Tryz.prog w base spare held fuel t cs=some x) :
  cs.length=(Tryz.prog).cellsOf t∧∃ n,∀(i:Nat) (f:Field),fs[i]?=some f→∃ y,DataW.trod enc Tryz.prog w base spare held n f.type ((cs.drop f.offset).take ((Tryz.prog).cellsOf f.type))=some y:=by
 obtain⟨xs,n,_,_,hl,hlen,hg⟩:=DataW.trod_struct ht h
 refine⟨hl,n,fun i f hf=>?_⟩
 have hi:i<xs.length:=by rw[hlen]; exact(Array.getElem?_eq_some_iff.1 hf).1
 exact⟨xs[i],by rw[hg i f hf]; simp[hi]⟩
set_option maxRecDepth 100000 in
theorem open_whole{fuel:Nat}{cs:List Value}{x:DataW H×List MemPlace}(h:DataW.trod enc Tryz.prog w base spare held fuel 23 cs=some x):∃ xab xbs,cs=[.bool xab,.string xbs]:=by
 obtain⟨hl,n,hg⟩:=open_fields Tryz.underlying23 h
 have hl':cs.length=2:=hl.trans (by kernel_rfl)
 obtain⟨y0,h0⟩:=hg 0 _ rfl
 have hc0:(Tryz.prog).cellsOf 4=1:=by kernel_rfl
 have g0:DataW.trod enc Tryz.prog w base spare held n 4 ((cs.drop 0).take ((Tryz.prog).cellsOf 4))=some y0:=h0
 rw[hc0] at g0
 obtain⟨xab,k0,_⟩:=DataW.trod_bool Tryz.underlying4 g0
 obtain⟨y1,h1⟩:=hg 1 _ rfl
 have hc1:(Tryz.prog).cellsOf 9=1:=by kernel_rfl
 have g1:DataW.trod enc Tryz.prog w base spare held n 9 ((cs.drop 1).take ((Tryz.prog).cellsOf 9))=some y1:=h1
 rw[hc1] at g1
 obtain⟨xbs,k1,_⟩:=DataW.trod_string Tryz.underlying9 g1
 have t1:cs.take 2=cs.take 1++(cs.drop 1).take 1:=List.take_add (i:=1) (j:=1)
 have t0:cs.take 1=(cs.drop 0).take 1:=by simp
 have e:cs=cs.take 2:=(List.take_of_length_le (by omega)).symm
 rw[t1,t0,k0,k1] at e
 exact⟨xab,xbs,e⟩
set_option maxRecDepth 100000 in
theorem open_frac{fuel:Nat}{cs:List Value}{x:DataW H×List MemPlace}(h:DataW.trod enc Tryz.prog w base spare held fuel 25 cs=some x):∃ xaab xabs xbab xbbs,cs=[.bool xaab,.string xabs,.bool xbab,.string xbbs]:=by
 obtain⟨hl,n,hg⟩:=open_fields Tryz.underlying25 h
 have hl':cs.length=4:=hl.trans (by kernel_rfl)
 obtain⟨y0,h0⟩:=hg 0 _ rfl
 have hc0:(Tryz.prog).cellsOf 23=2:=by kernel_rfl
 have g0:DataW.trod enc Tryz.prog w base spare held n 23 ((cs.drop 0).take ((Tryz.prog).cellsOf 23))=some y0:=h0
 rw[hc0] at g0
 obtain⟨xaab,xabs,k0⟩:=open_whole g0
 obtain⟨y1,h1⟩:=hg 1 _ rfl
 have hc1:(Tryz.prog).cellsOf 23=2:=by kernel_rfl
 have g1:DataW.trod enc Tryz.prog w base spare held n 23 ((cs.drop 2).take ((Tryz.prog).cellsOf 23))=some y1:=h1
 rw[hc1] at g1
 obtain⟨xbab,xbbs,k1⟩:=open_whole g1
 have t1:cs.take 4=cs.take 2++(cs.drop 2).take 2:=List.take_add (i:=2) (j:=2)
 have t0:cs.take 2=(cs.drop 0).take 2:=by simp
 have e:cs=cs.take 4:=(List.take_of_length_le (by omega)).symm
 rw[t1,t0,k0,k1] at e
 exact⟨xaab,xabs,xbab,xbbs,e⟩
set_option maxRecDepth 100000 in
theorem open_arg_frac{r:Reach}{b0:Nat}{v:Value}{d:DataW H}{p:List MemPlace}(hv:Value.okWide Tryz.prog w r b0 25 v)(h:DataW.Trod enc Tryz.prog w base spare held 25 v d p):∃ xaab xabs xbab xbbs,v=.agg #[.bool xaab,.string xabs,.bool xbab,.string xbbs]:=by
 obtain⟨cs,rfl,hsz⟩:=okWide_struct Tryz.underlying25 hv
 obtain⟨fuel,hf⟩:=h
 obtain⟨xaab,xabs,xbab,xbbs,e⟩:=open_frac hf
 refine⟨xaab,xabs,xbab,xbbs,?_⟩
 obtain⟨l⟩:=cs
 have e':l=_:=e
 rw[e']
end
set_option maxRecDepth 100000 in
theorem lifted(os:Os)(started:os.Started)(H:Type)(enc:TypeId×Value→H) :
  ReturnsInHanded {} Tryz.checked os 5 .any (Rows.nearBackSpec.pre6 enc Tryz.prog Tryz.f5 Rows.nearBackRow.domain false) (Rows.nearBackSpec.post enc Tryz.prog Tryz.f5 false true false false):=by
 refine returnsInHanded_of_change (C:=Tryz.checked) Tryz.own started (by kernel_rfl) Tryz.func5
  (ChangeSpec.witness6 (enc:=enc) (C:=Tryz.checked) false ⟨#[],#[.float .f64 0,.agg #[.bool false,.string ⟨#[]⟩,.bool false,.string ⟨#[]⟩]],[]⟩ 12 (by kernel_rfl) (by kernel_rfl) (by kernel_rfl) (by kernel_rfl)) ?_
 intro W base args ds gs before hval0 hW hcnd _
 have hval:∀(j:Nat) t v,Tryz.f5.params[j]?=some t→args[j]?=some v→Value.okWide Tryz.prog W .any base t v:=hval0
 have hW':=hW
 obtain⟨p,q,hA0,hV,rfl,hfz,hnd⟩:=hW
 have hA:DataW.TrodAll enc Tryz.prog W 0 (fun _=>true) true Tryz.f5.params.toList args.toList ds p:=hA0
 rw[Tryz.params5] at hA hval
 obtain⟨v0,v1,d0,d1,p0,p1,rfl,rfl,rfl,h0,h1⟩:=trodAll_two hA
 obtain⟨rfl,rfl⟩:=trodVars_none hV
 have k0:=h0
 have k1:=h1
 obtain⟨n0,rfl,-,-,wf0⟩:=ChangeShapes.open_float Tryz.underlying28 (hval 0 28 v0 rfl rfl) h0
 obtain⟨xaavb,xabvs,xbavb,xbbvs,rfl⟩:=open_arg_frac (hval 1 25 v1 rfl rfl) h1
 clear hA0 hval0
 have hl:Tr.PureC Tryz.prog 5 [.float .f64 n0,.agg #[.bool xaavb,.string xabvs,.bool xbavb,.string xbbvs]] (.bool true):=(back_true n0 (by have:=wf0; simp[Lit.wf] at this; omega) ⟨xaavb,xbavb,xabvs,xbbvs⟩).pure (by kernel_rfl) (by kernel_rfl)
 refine(hl W).mono ?_
 rintro e W' ⟨he,bel⟩
 subst he
 exact⟨_,rfl,_,_,_,[],_,[],hW',trodAll_mk1 (shut_bool Tryz.underlying4 _),(trodAll_mk2 (Below.trod Tryz.laidOut (by kernel_rfl) (of_decide_eq_true (by kernel_rfl)) k0 bel (by obtain⟨m,hm⟩:=k0; exact DataW.trod_lt m _ _ _ hm)) (Below.trod Tryz.laidOut (by kernel_rfl) (of_decide_eq_true (by kernel_rfl)) k1 bel (by obtain⟨m,hm⟩:=k1; exact DataW.trod_lt m _ _ _ hm))),rfl,bel.frame _,fun h=>by cases h⟩
theorem NearBack_holds:Rows.NearBackSaid :=
 OpenClaim.holds_of_wide 5 Tryz.f5 rfl rfl rfl rfl rfl rfl rfl ⟨rfl,rfl,rfl,rfl,rfl⟩ rfl rfl rfl rfl rfl (by kernel_rfl) Tryz.func5 (by kernel_rfl)
  (of_decide_eq_true (by kernel_rfl)) (by unfold Func.isWrapper; first|(rw[if_pos (by decide +kernel)]; kernel_rfl)|(rw[if_neg (by decide +kernel)]; exact⟨rfl,rfl⟩))
  (fun os started H enc _=>lifted os started H enc)
#print axioms NearBack_holds
end Go.Proofs.YthklnbaddobieaaGreat
