/- PlaneLines, for every input: for every picture, any circle and any number, the answers are the document's. No condition. -/
import Derived.Test.YtmimficdpfmfgaaGreatWbh
import Derived.ProofKit
import Derived.OpenShut
import Derived.ShutString
import Derived.ChangeOld
import Derived.Lib.SmallJoins
set_option linter.all false
set_option maxHeartbeats 4000000
set_option maxRecDepth 100000
namespace Go.Proofs.YtmimficdpfmfgaaGreat
open Go.ChangeShapes Go.WideShapes Go.ChangeAt Go.RowKit Go.Deep Go.Joins
theorem Tryz.own:ownKnob Tryz.prog.godebug=none:=by kernel_rfl
theorem Tryz.laidOut:laidOutB Tryz.prog=true:=by kernel_rfl
section
variable{H:Type}{enc:TypeId×Value->H}{w:World}{base:Nat}{spare:Nat->Bool}{held:Bool}
theorem Qji{t:TypeId}{fs:Array Field}{fuel:Nat}{cs:List Value}{x:DataW H×List MemPlace}(ht:(Tryz.prog).underlying t=some (.struct fs))(h:DataW.trod enc Tryz.prog w base spare held fuel t cs=some x) :
  cs.length=(Tryz.prog).cellsOf t/\∃ n,∀(i:Nat) (f:Field),fs[i]?=some f->∃ y,DataW.trod enc Tryz.prog w base spare held n f.type ((cs.drop f.offset).take ((Tryz.prog).cellsOf f.type))=some y:=by
 obtain⟨xs,n,_,_,hl,hlen,hg⟩:=DataW.trod_struct ht h;refine⟨hl,n,fun i f hf=>?_⟩;have hi:i<xs.length:=by rw[hlen];exact(Array.getElem?_eq_some_iff.1 hf).1
 exact⟨xs[i],by rw[hg i f hf];simp[hi]⟩
theorem Qwb{fuel:Nat}{cs:List Value}{x:DataW H×List MemPlace}(h:DataW.trod enc Tryz.prog w base spare held fuel 24 cs=some x):∃ xab xbs,cs=[.bool xab,.string xbs]:=by
 obtain⟨hl,n,hg⟩:=Qji Tryz.underlying24 h;have hl':cs.length=2:=hl.trans (by kernel_rfl);obtain⟨y0,h0⟩:=hg 0 _ rfl;have hc0:(Tryz.prog).cellsOf 4=1:=by kernel_rfl
 have g0:DataW.trod enc Tryz.prog w base spare held n 4 ((cs.drop 0).take ((Tryz.prog).cellsOf 4))=some y0:=h0;rw[hc0] at g0;obtain⟨xab,k0,_⟩:=DataW.trod_bool Tryz.underlying4 g0;obtain⟨y1,h1⟩:=hg 1 _ rfl;have hc1:(Tryz.prog).cellsOf 9=1:=by kernel_rfl
 have g1:DataW.trod enc Tryz.prog w base spare held n 9 ((cs.drop 1).take ((Tryz.prog).cellsOf 9))=some y1:=h1;rw[hc1] at g1;obtain⟨xbs,k1,_⟩:=DataW.trod_string Tryz.underlying9 g1;have t1:cs.take 2=cs.take 1++(cs.drop 1).take 1:=List.take_add (i:=1) (j:=1);have t0:cs.take 1=(cs.drop 0).take 1:=by simp
 have e:cs=cs.take 2:=(List.take_of_length_le (by omega)).symm;rw[t1,t0,k0,k1] at e;exact⟨xab,xbs,e⟩
theorem Qne{fuel:Nat}{cs:List Value}{x:DataW H×List MemPlace}(h:DataW.trod enc Tryz.prog w base spare held fuel 26 cs=some x):∃ xaab xabs xbab xbbs,cs=[.bool xaab,.string xabs,.bool xbab,.string xbbs]:=by
 obtain⟨hl,n,hg⟩:=Qji Tryz.underlying26 h;have hl':cs.length=4:=hl.trans (by kernel_rfl);obtain⟨y0,h0⟩:=hg 0 _ rfl;have hc0:(Tryz.prog).cellsOf 24=2:=by kernel_rfl
 have g0:DataW.trod enc Tryz.prog w base spare held n 24 ((cs.drop 0).take ((Tryz.prog).cellsOf 24))=some y0:=h0;rw[hc0] at g0;obtain⟨xaab,xabs,k0⟩:=Qwb g0;obtain⟨y1,h1⟩:=hg 1 _ rfl;have hc1:(Tryz.prog).cellsOf 24=2:=by kernel_rfl
 have g1:DataW.trod enc Tryz.prog w base spare held n 24 ((cs.drop 2).take ((Tryz.prog).cellsOf 24))=some y1:=h1;rw[hc1] at g1;obtain⟨xbab,xbbs,k1⟩:=Qwb g1;have t1:cs.take 4=cs.take 2++(cs.drop 2).take 2:=List.take_add (i:=2) (j:=2);have t0:cs.take 2=(cs.drop 0).take 2:=by simp
 have e:cs=cs.take 4:=(List.take_of_length_le (by omega)).symm;rw[t1,t0,k0,k1] at e;exact⟨xaab,xabs,xbab,xbbs,e⟩
theorem Qwa{fuel:Nat}{cs:List Value}{x:DataW H×List MemPlace}(h:DataW.trod enc Tryz.prog w base spare held fuel 28 cs=some x):∃ xaaab xaabs xabab xabbs xbaab xbabs xbbab xbbbs,cs=[.bool xaaab,.string xaabs,.bool xabab,.string xabbs,.bool xbaab,.string xbabs,.bool xbbab,.string xbbbs]:=by
 obtain⟨hl,n,hg⟩:=Qji Tryz.underlying28 h;have hl':cs.length=8:=hl.trans (by kernel_rfl);obtain⟨y0,h0⟩:=hg 0 _ rfl;have hc0:(Tryz.prog).cellsOf 26=4:=by kernel_rfl
 have g0:DataW.trod enc Tryz.prog w base spare held n 26 ((cs.drop 0).take ((Tryz.prog).cellsOf 26))=some y0:=h0;rw[hc0] at g0;obtain⟨xaaab,xaabs,xabab,xabbs,k0⟩:=Qne g0;obtain⟨y1,h1⟩:=hg 1 _ rfl;have hc1:(Tryz.prog).cellsOf 26=4:=by kernel_rfl
 have g1:DataW.trod enc Tryz.prog w base spare held n 26 ((cs.drop 4).take ((Tryz.prog).cellsOf 26))=some y1:=h1;rw[hc1] at g1;obtain⟨xbaab,xbabs,xbbab,xbbbs,k1⟩:=Qne g1;have t1:cs.take 8=cs.take 4++(cs.drop 4).take 4:=List.take_add (i:=4) (j:=4);have t0:cs.take 4=(cs.drop 0).take 4:=by simp
 have e:cs=cs.take 8:=(List.take_of_length_le (by omega)).symm;rw[t1,t0,k0,k1] at e;exact⟨xaaab,xaabs,xabab,xabbs,xbaab,xbabs,xbbab,xbbbs,e⟩
theorem Kei{fuel:Nat}{cs:List Value}{x:DataW H×List MemPlace}(h:DataW.trod enc Tryz.prog w base spare held fuel 47 cs=some x):∃ xaaab xaabs xabab xabbs xbaaab xbaabs xbabab xbabbs xbbaab xbbabs xbbbab xbbbbs xcaab xcabs xcbab xcbbs,cs=[.bool xaaab,.string xaabs,.bool xabab,.string xabbs,.bool xbaaab,.string xbaabs,.bool xbabab,.string xbabbs,.bool xbbaab,.string xbbabs,.bool xbbbab,.string xbbbbs,.bool xcaab,.string xcabs,.bool xcbab,.string xcbbs]:=by
 obtain⟨hl,n,hg⟩:=Qji Tryz.underlying47 h;have hl':cs.length=16:=hl.trans (by kernel_rfl);obtain⟨y0,h0⟩:=hg 0 _ rfl;have hc0:(Tryz.prog).cellsOf 26=4:=by kernel_rfl
 have g0:DataW.trod enc Tryz.prog w base spare held n 26 ((cs.drop 0).take ((Tryz.prog).cellsOf 26))=some y0:=h0;rw[hc0] at g0;obtain⟨xaaab,xaabs,xabab,xabbs,k0⟩:=Qne g0;obtain⟨y1,h1⟩:=hg 1 _ rfl;have hc1:(Tryz.prog).cellsOf 28=8:=by kernel_rfl
 have g1:DataW.trod enc Tryz.prog w base spare held n 28 ((cs.drop 4).take ((Tryz.prog).cellsOf 28))=some y1:=h1;rw[hc1] at g1;obtain⟨xbaaab,xbaabs,xbabab,xbabbs,xbbaab,xbbabs,xbbbab,xbbbbs,k1⟩:=Qwa g1;obtain⟨y2,h2⟩:=hg 2 _ rfl;have hc2:(Tryz.prog).cellsOf 26=4:=by kernel_rfl
 have g2:DataW.trod enc Tryz.prog w base spare held n 26 ((cs.drop 12).take ((Tryz.prog).cellsOf 26))=some y2:=h2;rw[hc2] at g2;obtain⟨xcaab,xcabs,xcbab,xcbbs,k2⟩:=Qne g2;have t2:cs.take 16=cs.take 12++(cs.drop 12).take 4:=List.take_add (i:=12) (j:=4);have t1:cs.take 12=cs.take 4++(cs.drop 4).take 8:=List.take_add (i:=4) (j:=8);have t0:cs.take 4=(cs.drop 0).take 4:=by simp
 have e:cs=cs.take 16:=(List.take_of_length_le (by omega)).symm;rw[t2,t1,t0,k0,k1,k2] at e;exact⟨xaaab,xaabs,xabab,xabbs,xbaaab,xbaabs,xbabab,xbabbs,xbbaab,xbbabs,xbbbab,xbbbbs,xcaab,xcabs,xcbab,xcbbs,e⟩
theorem Qsn{r:Reach}{b0:Nat}{v:Value}{d:DataW H}{p:List MemPlace}(hv:Value.okWide Tryz.prog w r b0 47 v)(h:DataW.Trod enc Tryz.prog w base spare held 47 v d p):∃ xaaab xaabs xabab xabbs xbaaab xbaabs xbabab xbabbs xbbaab xbbabs xbbbab xbbbbs xcaab xcabs xcbab xcbbs,v=.agg #[.bool xaaab,.string xaabs,.bool xabab,.string xabbs,.bool xbaaab,.string xbaabs,.bool xbabab,.string xbabbs,.bool xbbaab,.string xbbabs,.bool xbbbab,.string xbbbbs,.bool xcaab,.string xcabs,.bool xcbab,.string xcbbs]:=by
 obtain⟨cs,rfl,hsz⟩:=okWide_struct Tryz.underlying47 hv;obtain⟨fuel,hf⟩:=h;obtain⟨xaaab,xaabs,xabab,xabbs,xbaaab,xbaabs,xbabab,xbabbs,xbbaab,xbbabs,xbbbab,xbbbbs,xcaab,xcabs,xcbab,xcbbs,e⟩:=Kei hf;refine⟨xaaab,xaabs,xabab,xabbs,xbaaab,xbaabs,xbabab,xbabbs,xbbaab,xbbabs,xbbbab,xbbbbs,xcaab,xcabs,xcbab,xcbbs,?_⟩;obtain⟨l⟩:=cs;have e':l=_:=e;rw[e']
theorem Qur{r:Reach}{b0:Nat}{v:Value}{d:DataW H}{p:List MemPlace}(hv:Value.okWide Tryz.prog w r b0 28 v)(h:DataW.Trod enc Tryz.prog w base spare held 28 v d p):∃ xaaab xaabs xabab xabbs xbaab xbabs xbbab xbbbs,v=.agg #[.bool xaaab,.string xaabs,.bool xabab,.string xabbs,.bool xbaab,.string xbabs,.bool xbbab,.string xbbbs]:=by
 obtain⟨cs,rfl,hsz⟩:=okWide_struct Tryz.underlying28 hv;obtain⟨fuel,hf⟩:=h;obtain⟨xaaab,xaabs,xabab,xabbs,xbaab,xbabs,xbbab,xbbbs,e⟩:=Qwa hf;refine⟨xaaab,xaabs,xabab,xabbs,xbaab,xbabs,xbbab,xbbbs,?_⟩;obtain⟨l⟩:=cs;have e':l=_:=e;rw[e']
end
theorem Vcd{H:Type}{enc:TypeId×Value->H}{P:Program}{w:World}{base:Nat}{held:Nat->Bool}{spare:Bool}{t t' t'':TypeId}{v v' v'':Value}{d d' d'':DataW H}{p p' p'':List MemPlace}(h:DataW.Trod enc P w base held spare t v d p)(h':DataW.Trod enc P w base held spare t' v' d' p')(h'':DataW.Trod enc P w base held spare t'' v'' d'' p'') :
  DataW.TrodAll enc P w base held spare [t,t',t''] [v,v',v''] [d,d',d''] (p++p'++p''):=by rw[List.append_assoc];exact trodAll_mk3 h h' h''
theorem lifted(os:Os)(started:os.Started)(H:Type)(enc:TypeId×Value->H) :
  ReturnsInHanded {} Tryz.checked os 4 .any (Rows.planeLinesSpec.pre6 enc Tryz.prog Tryz.f4 Rows.planeLinesRow.domain false) (Rows.planeLinesSpec.post enc Tryz.prog Tryz.f4 false true false false):=by
 refine returnsInHanded_of_change (C:=Tryz.checked) Tryz.own started (by kernel_rfl) Tryz.func4
  (ChangeSpec.witness6 (enc:=enc) (C:=Tryz.checked) false ⟨#[],#[.int .i64 0,.agg #[.bool false,.string ⟨#[]⟩,.bool false,.string ⟨#[]⟩,.bool false,.string ⟨#[]⟩,.bool false,.string ⟨#[]⟩,.bool false,.string ⟨#[]⟩,.bool false,.string ⟨#[]⟩,.bool false,.string ⟨#[]⟩,.bool false,.string ⟨#[]⟩],.agg #[.bool false,.string ⟨#[]⟩,.bool false,.string ⟨#[]⟩,.bool false,.string ⟨#[]⟩,.bool false,.string ⟨#[]⟩]],[]⟩ 12 (by kernel_rfl) (by kernel_rfl) (by kernel_rfl) (by kernel_rfl)) ?_
 intro W base args ds gs before hval0 hW hcnd _;have hval:∀(j:Nat) t v,Tryz.f4.params[j]?=some t->args[j]?=some v->Value.okWide Tryz.prog W .any base t v:=hval0;have hW':=hW;obtain⟨p,q,hA0,hV,rfl,hfz,hnd⟩:=hW;have hA:DataW.TrodAll enc Tryz.prog W 0 (fun _=>true) true Tryz.f4.params.toList args.toList ds p:=hA0;rw[Tryz.params4] at hA hval;obtain⟨v0,v1,v2,d0,d1,d2,p0,p1,p2,rfl,rfl,rfl,h0,h1,h2⟩:=trodAll_three hA;obtain⟨rfl,rfl⟩:=trodVars_none hV;have k0:=h0;have k1:=h1;have k2:=h2;obtain⟨n0,rfl⟩:=okWide_int Tryz.underlying22 (hval 0 22 v0 rfl rfl);obtain⟨xaaavb,xaabvs,xabavb,xabbvs,xbaaavb,xbaabvs,xbabavb,xbabbvs,xbbaavb,xbbabvs,xbbbavb,xbbbbvs,xcaavb,xcabvs,xcbavb,xcbbvs,rfl⟩:=Qsn (hval 1 47 v1 rfl rfl) h1;obtain⟨xaaawb,xaabws,xabawb,xabbws,xbaawb,xbabws,xbbawb,xbbbws,rfl⟩:=Qur (hval 2 28 v2 rfl rfl) h2;clear hA0 hval0;have hl:Tr.PureC Tryz.prog 4 [.int .i64 n0,.agg #[.bool xaaavb,.string xaabvs,.bool xabavb,.string xabbvs,.bool xbaaavb,.string xbaabvs,.bool xbabavb,.string xbabbvs,.bool xbbaavb,.string xbbabvs,.bool xbbbavb,.string xbbbbvs,.bool xcaavb,.string xcabvs,.bool xcbavb,.string xcbbvs],.agg #[.bool xaaawb,.string xaabws,.bool xabawb,.string xabbws,.bool xbaawb,.string xbabws,.bool xbbawb,.string xbbbws]] (.bool true):=(Klk n0 ⟨xaaavb,xabavb,xaabvs,xabbvs⟩ ⟨xbaaavb,xbabavb,xbbaavb,xbbbavb,xbaabvs,xbabbvs,xbbabvs,xbbbbvs⟩ ⟨xcaavb,xcbavb,xcabvs,xcbbvs⟩ ⟨xaaawb,xabawb,xbaawb,xbbawb,xaabws,xabbws,xbabws,xbbbws⟩).pure (by kernel_rfl) (by kernel_rfl);refine(hl W).mono ?_;rintro e W' ⟨he,bel⟩;subst he;exact⟨_,rfl,_,_,_,[],_,[],hW',trodAll_mk1 (shut_bool Tryz.underlying4 _),(Vcd (Below.trod Tryz.laidOut (by kernel_rfl) (of_decide_eq_true (by kernel_rfl)) k0 bel (by obtain⟨m,hm⟩:=k0;exact DataW.trod_lt m _ _ _ hm)) (Below.trod Tryz.laidOut (by kernel_rfl) (of_decide_eq_true (by kernel_rfl)) k1 bel (by obtain⟨m,hm⟩:=k1;exact DataW.trod_lt m _ _ _ hm)) (Below.trod Tryz.laidOut (by kernel_rfl) (of_decide_eq_true (by kernel_rfl)) k2 bel (by obtain⟨m,hm⟩:=k2;exact DataW.trod_lt m _ _ _ hm))),rfl,bel.frame _,fun h=>by cases h⟩
theorem PlaneLines_holds:Rows.PlaneLinesSaid :=
 OpenClaim.holds_of_wide 4 Tryz.f4 rfl rfl rfl rfl rfl rfl rfl ⟨rfl,rfl,rfl,rfl,rfl⟩ rfl rfl rfl rfl rfl (by kernel_rfl) Tryz.func4 (by kernel_rfl)
  (of_decide_eq_true (by kernel_rfl)) (by unfold Func.isWrapper;first|(rw[if_pos (by decide +kernel)];kernel_rfl)|(rw[if_neg (by decide +kernel)];exact⟨rfl,rfl⟩))
  (fun os started H enc _=>lifted os started H enc)
#print axioms PlaneLines_holds
