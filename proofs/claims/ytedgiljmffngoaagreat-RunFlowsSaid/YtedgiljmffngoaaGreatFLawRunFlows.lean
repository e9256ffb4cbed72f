/- The law RunFlows holds for every input. No conditions. -/
import Derived.Test.YtedgiljmffngoaaGreatFWalk19
import Derived.Test.YtedgiljmffngoaaGreatFCore9
namespace Go.Proofs.YtedgiljmffngoaaGreat
set_option linter.all false
open Go.ChangeShapes Go.WideShapes Go.ChangeAt Go.RowKit
open Go.Proofs.Tryz
namespace rflows
theorem rflows_ret {S:Nat→Prop}{L:List HP}{h:AT}(hs:St S L h) {v0:Value}{x0:(List AX)}(k0:Sl S h BJ v0 x0) (x1:Int) (k1:AA x1) (x2:Int) (k2:AA x2) (x3:Int) (k3:AA x3) (x4:Int) (k4:AA x4):B0 prog 7 #[v0,.int .i64 x1,.int .i64 x2,.int .i64 x3,.int .i64 x4] S h (λv S' h'=>v= .bool true∧St S' L h'):=
 L9 hs k0 k1 k2 k3 k4 (T0) (QI _ _ _ _ _)
theorem opens_3:O9 prog 3 AB:=Ut (by kernel_rfl) underlying3
theorem opens_29:O9 prog 29 (BB.sl AB):=Sr (by kernel_rfl) underlying29 opens_3 rfl
theorem opens_74:O9 prog 74 BJ:=by
 have hc:prog.cellsOf 74=5:=by kernel_rfl
 refine⟨hc,λ{H enc w base spare held fuel cs x} h=>?_⟩;obtain⟨hl,hf⟩:=Ss underlying74 h;rw[hc] at hl
 match cs,hl with
 |[c0,c1,c2,c3,c4],_=>
  obtain⟨y0,k0⟩:=hf 0 _ AB rfl opens_3;obtain⟨e0,r0⟩:=k0;obtain rfl:c0=_:=(List.cons.inj (show[c0]=_ from e0)).1;obtain⟨y1,k1⟩:=hf 1 _ AB rfl opens_3;obtain⟨e1,r1⟩:=k1;obtain rfl:c1=_:=(List.cons.inj (show[c1]=_ from e1)).1;obtain⟨y2,k2⟩:=hf 2 _ AB rfl opens_3;obtain⟨e2,r2⟩:=k2;obtain rfl:c2=_:=(List.cons.inj (show[c2]=_ from e2)).1;obtain⟨y3,k3⟩:=hf 3 _ AB rfl opens_3;obtain⟨e3,r3⟩:=k3;obtain rfl:c3=_:=(List.cons.inj (show[c3]=_ from e3)).1;obtain⟨y4,k4⟩:=hf 4 _ (BB.sl AB) rfl opens_29;obtain⟨w4,e4,r4⟩:=k4;obtain rfl:c4=_:=(List.cons.inj (show[c4]=_ from e4)).1;exact⟨⟨y0,y1,y2,y3,y4⟩,⟨c4,rfl,r0,r1,r2,r3,r4⟩⟩
theorem opens_70:O9 prog 70 (BB.sl BJ):=Sr (by kernel_rfl) underlying70 opens_74 rfl
set_option maxRecDepth 100000 in
theorem rflows_holds_lifted (os:Os) (started:os.Started) (H:Type) (enc:TypeId×Value→H):
  ReturnsInHanded {} Tryz.checked os 7 .any (Rows.runFlowsSpec.pre6 enc prog Tryz.f7 Rows.runFlowsRow.domain false) (Rows.runFlowsSpec.post enc prog Tryz.f7 false true false false):=by
 refine returnsInHanded_of_change (C:=Tryz.checked) (by kernel_rfl) started (by kernel_rfl) func7
  (ChangeSpec.witness6 (enc:=enc) (C:=Tryz.checked) false ⟨#[],#[.slice none 0 0,.int .i64 0,.int .i64 0,.int .i64 0,.int .i64 0],[]⟩ 8 (by kernel_rfl) (by kernel_rfl) (by kernel_rfl) (by kernel_rfl)) ?_
 intro W base args ds gs before hval0 hW hcnd _;have hval:∀(j:Nat) t v,Tryz.f7.params[j]? =some t→args[j]? =some v→Value.okWide prog W .any base t v:=hval0;have hW':=hW;obtain⟨p,q,hA0,hV,rfl,hfz,hnd⟩:=hW;have hA:DataW.TrodAll enc prog W 0 (λ_=>true) true Tryz.f7.params.toList args.toList ds p:=hA0;rw[params7] at hA hval;obtain⟨v0,vs0,d0,ds0,p0,q0,ha0,rfl,rfl,h0,r0⟩:=trodAll_cons hA;obtain⟨v1,vs1,d1,ds1,p1,q1,rfl,rfl,rfl,h1,r1⟩:=trodAll_cons r0;obtain⟨v2,vs2,d2,ds2,p2,q2,rfl,rfl,rfl,h2,r2⟩:=trodAll_cons r1;obtain⟨v3,vs3,d3,ds3,p3,q3,rfl,rfl,rfl,h3,r3⟩:=trodAll_cons r2;obtain⟨v4,vs4,d4,ds4,p4,q4,rfl,rfl,rfl,h4,r4⟩:=trodAll_cons r3;obtain⟨rfl,rfl,rfl⟩:=trodAll_nil r4;obtain rfl:args= #[v0,v1,v2,v3,v4]:=by cases args;simp_all
 obtain⟨rfl,rfl⟩:=trodVars_none hV;obtain⟨x0,k0⟩:=O4 opens_70 rfl rfl (Vc underlying70 (hval 0 70 v0 rfl rfl)) h0;obtain⟨x1,k1⟩:=O4 opens_3 rfl rfl (Rw underlying3 (hval 1 3 v1 rfl rfl)) h1;obtain⟨x2,k2⟩:=O4 opens_3 rfl rfl (Rw underlying3 (hval 2 3 v2 rfl rfl)) h2;obtain⟨x3,k3⟩:=O4 opens_3 rfl rfl (Rw underlying3 (hval 3 3 v3 rfl rfl)) h3;obtain⟨x4,k4⟩:=O4 opens_3 rfl rfl (Rw underlying3 (hval 4 3 v4 rfl rfl)) h4;obtain⟨rfl,ki1⟩:=k1.int;obtain⟨rfl,ki2⟩:=k2.int;obtain⟨rfl,ki3⟩:=k3.int;obtain⟨rfl,ki4⟩:=k4.int;refine(Uw (rflows_ret (St.all W.heap) k0.sl x1 ki1 x2 ki2 x3 ki3 x4 ki4)).mono λe W' ⟨he,hb⟩=>⟨_,he,?_⟩
 exact Vf (tb:=4) (by kernel_rfl) (by kernel_rfl) hW' (by kernel_rfl) underlying4 rfl rfl rfl rfl hb
theorem rflows_n:Tryz.pinned.checked.prog.funcNamed Rows.runFlowsRow.func=some 7:=by kernel_rfl
theorem rflows_j:joinedFacts Tryz.pinned.checked.prog 7 Tryz.f7 Rows.runFlowsSpec Rows.runFlowsRow=true:=by kernel_rfl
theorem rflows_holds:Rows.RunFlowsSaid:=
 OpenClaim.holds_of_wide 7 Tryz.f7 rfl rfl rfl rfl rfl rfl rfl ⟨rfl,rfl,rfl,rfl,rfl⟩ rfl rfl rfl rfl rfl rflows_n func7 rflows_j
  (of_decide_eq_true (by kernel_rfl)) (by unfold Func.isWrapper;first|(rw [gO (by decide +kernel)];kernel_rfl)|(rw [gL (by decide +kernel)];exact⟨rfl,rfl⟩))
  (λos started H enc _=>rflows_holds_lifted os started H enc)
end rflows
end Go.Proofs.YtedgiljmffngoaaGreat
