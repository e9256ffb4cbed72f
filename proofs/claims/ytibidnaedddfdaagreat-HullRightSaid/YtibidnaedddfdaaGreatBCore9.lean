import Derived.Test.YtibidnaedddfdaaGreatBCore8
import Derived.ProofKit
import Derived.OpenShut
import Derived.JoinedCond
import Derived.Deep.Slices
namespace Go.Proofs.YtibidnaedddfdaaGreat
set_option linter.unusedSimpArgs false
open Go.ChangeShapes Go.WideShapes Go.ChangeAt Go.RowKit Go.Deep
set_option linter.unusedVariables false
def DB {α}(P:Program) (t:TypeId) (r:AW α):Prop:=
 P.cellsOf t=r.sz∧∀{H:Type} {enc:TypeId×Value→H} {w:World} {base:Nat} {spare:Nat→Bool} {held:Bool} {fuel:Nat} {cs:List Value} {x:DataW H×List MemPlace},
  DataW.trod enc P w base spare held fuel t cs=some x→∃y,r.rd (λb=>b<w.heap.size) w.heap cs y
theorem VR {n:Int}(h:(Lit.int .i64 n).wf=true):AB n:=by
 simpa [Lit.wf,IntKind.min,IntKind.max,IntKind.signed,IntKind.bits,AB] using h
theorem SE {P:Program}{t:TypeId}(hc:P.cellsOf t=1) (hu:P.underlying t=some (.int .i64)):DB P t AW.int:=by
 refine⟨hc,λ{H enc w base spare held fuel cs x} h=>?_⟩
 cases fuel with
 |zero=>simp [DataW.trod] at h
 |succ n=>
  unfold DataW.trod at h
  simp only[hu] at h
  split at h<;>simp_all
  rename_i k n' hh
  obtain⟨⟨rfl,hwf⟩,_⟩:=h
  subst hh
  exact⟨n',rfl,VR hwf⟩
theorem Qb {P:Program}{t:TypeId}(hc:P.cellsOf t=1) (hu:P.underlying t=some .bool):DB P t AW.bool:=by
 refine⟨hc,λ{H enc w base spare held fuel cs x} h=>?_⟩
 cases fuel with
 |zero=>simp [DataW.trod] at h
 |succ n=>
  unfold DataW.trod at h
  simp only[hu] at h
  split at h<;>first|(exact ⟨_,rfl⟩)|simp_all
theorem SD {P:Program}{t:TypeId}(hc:P.cellsOf t=1) (hu:P.underlying t=some .string):DB P t AW.str:=by
 refine⟨hc,λ{H enc w base spare held fuel cs x} h=>?_⟩
 cases fuel with
 |zero=>simp [DataW.trod] at h
 |succ n=>
  unfold DataW.trod at h
  simp only[hu] at h
  split at h<;>simp_all
  exact⟨_,rfl,h.1⟩
theorem Mh {α}{p:Nat→α→Prop}:∀n,(∀i,i<n→∃x,p i x)→∃l:List α,l.length=n∧∀i x,l[i]? =some x→p i x
 |0,_=>⟨[],rfl,λi x h=>by simp at h⟩
 |n+1,h=>by
  obtain⟨l,h1,h2⟩:=Mh n λi hi=>h i (by omega)
  obtain⟨x,hx⟩:=h n (by omega)
  refine⟨l++[x],by simp [h1],λi y hy=>?_⟩
  rw[List.getElem?_append] at hy
  split at hy
  ·exact h2 i y hy
  ·rename_i hi
   have:i-l.length=0:=by
    have:=(List.getElem?_eq_some_iff.1 hy).1
    simp at this;omega
   rw[this] at hy
   simp at hy
   subst hy
   have:i=n:=by omega
   subst this
   exact hx
theorem EB {P:Program}{t e:TypeId}{α}{r:AW α}(hc:P.cellsOf t=1) (hu:P.underlying t=some (.slice e)) (he:DB P e r) (hz:Nat.blt 0 r.sz=true):DB P t (AW.sl r):=by
 refine⟨hc,λ{H enc w base spare held fuel cs x} h=>?_⟩
 have hz':0<r.sz:=(by simpa [Nat.blt] using hz:1≤r.sz)
 rcases open_slice hu h with ⟨rfl,_⟩|⟨a,len,cap,m,n,D,Pl,rfl,hb,hlc,hcm,hm,_,hel⟩
 ·exact⟨[],_,rfl,.inl ⟨rfl,rfl⟩⟩
 ·have hlm:len≤m:=by rw[hm];split<;>omega
  obtain⟨l,hl,hat⟩:=Mh (p:=λi x=>a.spot=none∧Pt (λb=>b<w.heap.size) w.heap r (.pointer (some ⟨a.block,a.off+i*r.sz,none⟩)) x) len λi hi=>by
   obtain⟨cs',hc',ht'⟩:=hel i (by omega)
   obtain⟨y,hy⟩:=he.2 ht'
   obtain⟨_,hlen,FI⟩:=World.cells?_some hc'
   rw[he.1] at hlen FI
   have hsp:a.spot=none:=by
    obtain⟨cs0,hc0,_⟩:=hel 0 (by omega)
    obtain⟨_,hlen0,hcell0⟩:=World.cells?_some hc0
    rw[he.1] at hlen0 hcell0
    have h0:=hcell0 0 hz'
    have ha:(a.add (0*r.sz)).add 0=a:=by simp [Addr.add]
    rw[ha] at h0
    cases hs:a.spot with
    |none=>rfl
    |some s=>
     have:w.cell? a=none:=by
      unfold World.cell?
      split
      ·simp [hs]
      ·rfl
     rw[this] at h0
     have:cs0[0]? =some (cs0[0]'(by omega)):=List.getElem?_eq_getElem (by omega)
     rw[this] at h0
     cases h0
   obtain⟨b,o,s⟩:=a
   simp only at hsp
   subst hsp
   have hadd:∀j,((⟨b,o,none⟩:Addr).add (i*r.sz)).add j=⟨b,o+i*r.sz+j,none⟩:=by
    intro j
    have e1:(⟨b,o,none⟩:Addr).add (i*r.sz)=⟨b,o+i*r.sz,none⟩:=by unfold Addr.add;split<;>simp_all
    rw[e1];unfold Addr.add;split<;>simp_all
   have hblk:b<w.heap.size:=by
    have h0:=FI 0 hz'
    rw[hadd] at h0
    have:cs'[0]? =some (cs'[0]'(by omega)):=List.getElem?_eq_getElem (by omega)
    rw[this] at h0
    exact World.block_lt_of_cell? w _ h0
   refine⟨y,rfl,cs',⟨⟨b,o+i*r.sz,none⟩,rfl,rfl,hblk,λj hj=>?_⟩,hy⟩
   have:=FI j (by omega)
   rw[hadd] at this
   exact this
  exact⟨l,_,rfl,.inr ⟨a,cap,by rw[hl],by omega,hcm,hat⟩⟩
theorem CH {P:Program}{t:TypeId}{fs:Array Field}(hu:P.underlying t=some (.struct fs)) {H:Type}{enc:TypeId×Value→H}{w:World}{base:Nat}{spare:Nat→Bool}{held:Bool}{fuel:Nat}{cs:List Value}{x:DataW H×List MemPlace}
  (h:DataW.trod enc P w base spare held fuel t cs=some x):cs.length=P.cellsOf t∧∀(j:Nat) (f:Field) {α} (r:AW α),fs[j]? =some f→DB P f.type r→∃y,r.rd (λb=>b<w.heap.size) w.heap ((cs.drop f.offset).take r.sz) y:=by
 obtain⟨xs,n,_,_,hl,hlen,hf⟩:=DataW.trod_struct hu h
 refine⟨hl,λj f α r hj ho=>?_⟩
 have h1:=hf j f hj
 have hjl:j<xs.length:=by rw[hlen];exact(Array.getElem?_eq_some_iff.1 hj).1
 rw[List.getElem?_eq_getElem hjl,ho.1] at h1
 exact ho.2 h1
theorem Qo {P:Program}{t:TypeId}{fs:Array Field}{α}{r:AW α}(ho:DB P t r) (hag:r.ag=true) (hu:P.underlying t=some (.struct fs)) {H:Type}{enc:TypeId×Value→H}{w:World}{rch:Reach}{b0 base:Nat}{spare:Nat→Bool}{held:Bool}{v:Value}{d:DataW H}{p:List MemPlace}
  (hv:Value.okWide P w rch b0 t v) (h:DataW.Trod enc P w base spare held t v d p):∃y,Rd (λb=>b<w.heap.size) w.heap r v y:=by
 obtain⟨cs,rfl,_⟩:=okWide_struct hu hv
 obtain⟨fuel,hf⟩:=h
 obtain⟨y,hy⟩:=ho.2 hf
 exact⟨y,cs.toList,by simp [AW.val,hag],hy⟩
theorem SU {v:Value}{c:Value}(h:v.cells.toList=[c]) (hc:c.oneCell'=true):v=c∨∃cs,v= .agg cs:=by
 cases v<;>first|(right;exact⟨_,rfl⟩)|(left;simpa [Value.cells] using h)
theorem Ru {P:Program}{t:TypeId}{α}{r:AW α}(ho:DB P t r) (hag:r.ag=false) (hsz:r.sz=1) {H:Type}{enc:TypeId×Value→H}{w:World}{base:Nat}{spare:Nat→Bool}{held:Bool}{v:Value}{d:DataW H}{p:List MemPlace}
  (hne:∀cs,v≠ .agg cs) (h:DataW.Trod enc P w base spare held t v d p):∃y,Rd (λb=>b<w.heap.size) w.heap r v y:=by
 obtain⟨fuel,hf⟩:=h
 obtain⟨y,hy⟩:=ho.2 hf
 have hl:=r.len hy
 rw[hsz] at hl
 match hcs:v.cells.toList,hl with
 |[c],_=>
  rw[hcs] at hy
  have hone:=r.one hy c (by simp)
  rcases SU hcs hone with rfl|⟨cs,rfl⟩
  ·exact⟨y,[v],by simp [AW.val,hag],hy⟩
  ·exact absurd rfl (hne cs)
theorem Pk {P:Program}{t e:TypeId}(hu:P.underlying t=some (.slice e)) {w:World}{rch:Reach}{b0:Nat}{v:Value}(hv:Value.okWide P w rch b0 t v):∀cs,v≠ .agg cs:=by
 rintro cs rfl;simp [Value.okWide,hu,Cell.okWide,Cell.ok] at hv
theorem K6 {H:Type}{enc:TypeId×Value→H}{P:Program}(hl:laidOutB P=true) {W W':World}(hb:Below W.heap.size W W'):
  ∀{ts:List TypeId} {vs:List Value} {ds:List (DataW H)} {ps:List MemPlace},(∀t∈ts,P.readableRec t=true∧t<P.types.size)→DataW.TrodAll enc P W 0 (λ_=>true) true ts vs ds ps→(∀x∈ps,x.block<W.heap.size)→
   ∀sp:Nat→Bool,(∀x∈ps,sp x.block=true)→DataW.TrodAll enc P W' 0 sp true ts vs ds ps
 |[],vs,ds,ps,_,h,_,sp,_=>by
  obtain⟨rfl,rfl,rfl⟩:=trodAll_nil h
  exact rfl
 |t::ts,vs,ds,ps,ht,h,hlt,sp,hsp=>by
  obtain⟨v,vs',d,ds',p,q,rfl,rfl,rfl,h1,h2⟩:=trodAll_cons h
  obtain⟨r1,r2⟩:=ht t (by simp)
  refine⟨p,q,WideElems.Trod_stays hl r1 r2 h1 (λx hx=>hb.same (hlt x (by simp [hx]))) (λx hx=>hsp x (by simp [hx])),?_,rfl⟩
  exact K6 hl hb (λt ht'=>ht t (by simp [ht'])) h2 (λx hx=>hlt x (by simp [hx])) sp λx hx=>hsp x (by simp [hx])
theorem Tj {H:Type}{enc:TypeId×Value→H}{P:Program}{f:Func}{s:ChangeSpec}{W W':World}{args:Array Value}{ds gs:List (DataW H)}{before:List MemPlace}{tb:TypeId}
  (hl:laidOutB P=true) (hts:f.params.toList.all (λt=>P.readableRec t&&decide (t<P.types.size))=true) (hW:DataW.Whole enc P f.params.toList s.vars false W args.toList ds gs before)
  (hr:f.resultTypes= #[tb]) (hu:P.underlying tb=some .bool) (hvars:s.vars=[]) (h1:(s.fn H (ds++gs)).results=[.lit (.bool true)]) (h2:(s.fn H (ds++gs)).args=ds) (h3:(s.fn H (ds++gs)).vars=[])
  (hb:Below W.heap.size W W'):s.post enc P f false true false false W args (.bool true) W':=by
 have hlt:∀p∈before,p.block<W.heap.size:=λp hp=>hW.lt p hp
 obtain⟨pa,pv,hA,hV,rfl,hz,hn⟩:=id hW
 rw[hvars] at hV
 obtain⟨rfl,rfl⟩:=trodVars_none hV
 simp only[List.append_nil] at*
 refine⟨ds,[],pa,[],pa,[],by simpa using hW,?_,?_,?_,?_,λh=>by cases h⟩
 ·simp only[List.append_nil]
  rw[h1,hr]
  exact trodAll_mk1 (shut_bool hu true)
 ·simp only[List.append_nil]
  rw[h2]
  refine K6 hl hb (λt ht=>?_) hA hlt _ λx hx=>by simpa using hlt x hx
  have:=List.all_eq_true.1 hts t ht
  simpa using this
 ·simp only[List.append_nil]
  rw[h3,hvars]
  exact rfl
 ·exact hb.frame _
theorem SI {P:Program}{f:FuncId}{args:Array Value}{W:World}{L:(Nat→Prop)→Ac→Prop}(k:Bh P f args (λb=>b<W.heap.size) W.heap (λv S' h'=>v= .bool true∧L S' h')):
  Calls P f args W λe W'=>e= .returned (.bool true)∧Below W.heap.size W W':=
 (k W W ⟨rfl,rfl,rfl,rfl⟩).mono λe W' ⟨v,S',h',h1,h2,h3,h4,_⟩=>by
  subst h1;subst h4
  exact⟨rfl,h2.os,h2.tape,h2.out,by rw[h2.heap];exact h3.siz,λb hb=>by rw[h2.heap];exact h3.same b hb⟩
end Go.Proofs.YtibidnaedddfdaaGreat
