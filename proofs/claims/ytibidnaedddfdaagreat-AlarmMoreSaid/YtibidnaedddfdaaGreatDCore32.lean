import Derived.Test.YtibidnaedddfdaaGreatDCore8
import Derived.ProofKit
import Derived.OpenShut
import Derived.JoinedCond
import Derived.Deep.Slices
import Derived.SizedLaws
namespace Go.Proofs.YtibidnaedddfdaaGreat
set_option linter.all false
open Go.ChangeShapes Go.WideShapes Go.ChangeAt Go.RowKit Go.Deep
def ER {α}(P:Program) (t:TypeId) (r:B7 α):Prop:=
 P.cellsOf t=r.sz∧∀{H:Type} {enc:TypeId×Value→H} {w:World} {c:Nat} {a:Nat→Bool} {d:Bool} {g:Nat} {cs:List Value} {x:DataW H×List MemPlace},
  DataW.trod enc P w c a d g t cs=some x→∃y,r.rd (λb=>b<w.heap.size) w.heap cs y
def Xy {n:Int}(h:(Lit.int .i64 n).wf=true):AD n:=by
 simpa [Lit.wf,IntKind.min,IntKind.max,IntKind.signed,IntKind.bits,AD] using h
def Uo {P:Program}{t:TypeId}(i:P.cellsOf t=1) (j:P.underlying t=some (.int .i64)):ER P t BQ:=by
 refine⟨i,λ{H enc w d b g a cs x} h=>?_⟩
 cases a with
 |zero=>simp [DataW.trod] at h
 |succ n=>
  unfold DataW.trod at h
  simp only[j] at h
  split at h<;>simp_all
  rename_i k l m
  obtain⟨⟨rfl,c⟩,_⟩:=h
  subst m
  exact⟨l,rfl,Xy c⟩
def Un {P:Program}{t:TypeId}(g:P.cellsOf t=1) (i:P.underlying t=some .string):ER P t B7.str:=by
 refine⟨g,λ{H enc w c b d a cs x} h=>?_⟩
 cases a with
 |zero=>simp [DataW.trod] at h
 |succ n=>
  unfold DataW.trod at h
  simp only[i] at h
  split at h<;>simp_all
  exact⟨_,rfl,h.1⟩
def OV {α}{p:Nat→α→Prop}:∀n,(∀i,i<n→∃x,p i x)→∃l:List α,l.length=n∧∀i x,l[i]? =some x→p i x
 |0,_=>⟨[],rfl,λi x h=>by simp at h⟩
 |n+1,h=>by
  obtain⟨l,b,c⟩:=OV n λi d=>h i (by omega)
  obtain⟨x,g⟩:=h n (by omega)
  refine⟨l++[x],by simp [b],λi y a=>?_⟩
  rw[List.getElem?_append] at a
  split at a
  ·exact c i y a
  ·rename_i d
   have:i-l.length=0:=by
    have:=(jF.1 a).1
    simp at this;omega
   rw[this] at a
   simp at a
   subst a
   have:i=n:=by omega
   subst this
   exact g
def FD {P:Program}{t e:TypeId}{α}{r:B7 α}(Q:P.cellsOf t=1) (U:P.underlying t=some (.slice e)) (A:ER P e r) (V:Nat.blt 0 r.sz=true):ER P t (B7.sl r):=by
 refine⟨Q,λ{H enc w J B K M cs x} h=>?_⟩
 have k:0<r.sz:=(by simpa [Nat.blt] using V:1≤r.sz)
 rcases open_slice U h with ⟨rfl,_⟩|⟨a,len,cap,m,n,D,Pl,rfl,hb,hlc,hcm,hm,_,hel⟩
 ·exact⟨[],_,rfl,.inl ⟨rfl,rfl⟩⟩
 ·have W:len≤m:=by rw[hm];split<;>omega
  obtain⟨l,X,C⟩:=OV (p:=λi x=>a.spot=none∧Pt (λb=>b<w.heap.size) w.heap r (.pointer (some ⟨a.block,a.off+i*r.sz,none⟩)) x) len λi hi=>by
   obtain⟨cs',F,G⟩:=hel i (by omega)
   obtain⟨y,Y⟩:=A.2 G
   obtain⟨_,q,Gt⟩:=World.cells?_some F
   rw[A.1] at q Gt
   have u:a.spot=none:=by
    obtain⟨v,I,_⟩:=hel 0 (by omega)
    obtain⟨_,g,c⟩:=World.cells?_some I
    rw[A.1] at g c
    have h0:=c 0 k
    have Z:(a.add (0*r.sz)).add 0=a:=by simp [Addr.add]
    rw[Z] at h0
    cases hs:a.spot with
    |none=>rfl
    |some s=>
     have:w.cell? a=none:=by
      unfold World.cell?
      split
      ·simp [hs]
      ·rfl
     rw[this] at h0
     have:v[0]? =some (v[0]'(by omega)):=jE (by omega)
     rw[this] at h0
     cases h0
   obtain⟨b,o,s⟩:=a
   simp only at u
   subst u
   have d:∀j,((⟨b,o,none⟩:Addr).add (i*r.sz)).add j=⟨b,o+i*r.sz+j,none⟩:=by
    intro j
    have e1:(⟨b,o,none⟩:Addr).add (i*r.sz)=⟨b,o+i*r.sz,none⟩:=by unfold Addr.add;split<;>simp_all
    rw[e1];unfold Addr.add;split<;>simp_all
   have z:b<w.heap.size:=by
    have h0:=Gt 0 k
    rw[d] at h0
    have:cs'[0]? =some (cs'[0]'(by omega)):=jE (by omega)
    rw[this] at h0
    exact World.block_lt_of_cell? w _ h0
   refine⟨y,rfl,cs',⟨⟨b,o+i*r.sz,none⟩,rfl,rfl,z,λj hj=>?_⟩,Y⟩
   have:=Gt j (by omega)
   rw[d] at this
   exact this
  exact⟨l,_,rfl,.inr ⟨a,cap,by rw[X],by omega,hcm,C⟩⟩
def DO {P:Program}{t:TypeId}{l:Array Field}(q:P.underlying t=some (.struct l)) {H:Type}{enc:TypeId×Value→H}{w:World}{c:Nat}{a:Nat→Bool}{d:Bool}{g:Nat}{cs:List Value}{x:DataW H×List MemPlace}
  (h:DataW.trod enc P w c a d g t cs=some x):cs.length=P.cellsOf t∧∀(j:Nat) (f:Field) {v} (r:B7 v),l[j]? =some f→ER P f.type r→∃y,r.rd (λb=>b<w.heap.size) w.heap ((cs.drop f.offset).take r.sz) y:=by
 obtain⟨xs,n,_,_,s,i,u⟩:=DataW.trod_struct q h
 refine⟨s,λj f v r m o=>?_⟩
 have p:=u j f m
 have k:j<xs.length:=by rw[i];exact(jM.1 m).1
 rw[jE k,o.1] at p
 exact o.2 p
def W4 {P:Program}{t:TypeId}{l:Array Field}{α}{r:B7 α}(m:ER P t r) (i:r.ag=true) (n:P.underlying t=some (.struct l)) {H:Type}{enc:TypeId×Value→H}{w:World}{j:Reach}{o c:Nat}{a:Nat→Bool}{g:Bool}{v:Value}{d:DataW H}{p:List MemPlace}
  (q:Value.okWide P w j o t v) (h:DataW.Trod enc P w c a g t v d p):∃y,Rd (λb=>b<w.heap.size) w.heap r v y:=by
 obtain⟨cs,rfl,_⟩:=okWide_struct n q
 obtain⟨k,s⟩:=h
 obtain⟨y,u⟩:=m.2 s
 exact⟨y,cs.toList,by simp [B7.val,i],u⟩
def U3 {v:Value}{c:Value}(h:v.cells.toList=[c]) (a:c.oneCell'=true):v=c∨∃cs,v= .agg cs:=by
 cases v<;>first|(right;exact⟨_,rfl⟩)|(left;simpa [Value.cells] using h)
def O4 {P:Program}{t:TypeId}{α}{r:B7 α}(u:ER P t r) (m:r.ag=false) (n:r.sz=1) {H:Type}{enc:TypeId×Value→H}{w:World}{g:Nat}{a:Nat→Bool}{i:Bool}{v:Value}{d:DataW H}{p:List MemPlace}
  (o:∀cs,v≠ .agg cs) (h:DataW.Trod enc P w g a i t v d p):∃y,Rd (λb=>b<w.heap.size) w.heap r v y:=by
 obtain⟨q,x⟩:=h
 obtain⟨y,l⟩:=u.2 x
 have s:=r.len l
 rw[n] at s
 match j:v.cells.toList,s with
 |[c],_=>
  rw[j] at l
  have k:=r.one l c (by simp)
  rcases U3 j k with rfl|⟨cs,rfl⟩
  ·exact⟨y,[v],by simp [B7.val,m],l⟩
  ·exact absurd rfl (o cs)
def R9 {P:Program}{t e:TypeId}(b:P.underlying t=some (.slice e)) {w:World}{a:Reach}{c:Nat}{v:Value}(d:Value.okWide P w a c t v):∀cs,v≠ .agg cs:=by
 rintro cs rfl;simp [Value.okWide,b,Cell.okWide,Cell.ok] at d
def Vq {P:Program}{t:TypeId}{k:IntKind}(b:P.underlying t=some (.int k)) {w:World}{a:Reach}{c:Nat}{v:Value}(d:Value.okWide P w a c t v):∀cs,v≠ .agg cs:=by
 rintro cs rfl;simp [Value.okWide,b,Cell.okWide,Cell.ok] at d
def Mm {H:Type}{enc:TypeId×Value→H}{P:Program}(l:laidOutB P=true) {W m:World}(n:Below W.heap.size W m):
  ∀{j:List TypeId} {vs:List Value} {ds:List (DataW H)} {b:List MemPlace},(∀t∈j,P.readableRec t=true∧t<P.types.size)→DataW.TrodAll enc P W 0 (λ_=>true) true j vs ds b→(∀x∈b,x.block<W.heap.size)→
   ∀c:Nat→Bool,(∀x∈b,c x.block=true)→DataW.TrodAll enc P m 0 c true j vs ds b
 |[],vs,ds,b,_,h,_,c,_=>by
  obtain⟨rfl,rfl,rfl⟩:=trodAll_nil h
  exact rfl
 |t::j,vs,ds,b,o,h,g,c,i=>by
  obtain⟨v,s,d,u,p,q,rfl,rfl,rfl,w,y⟩:=trodAll_cons h
  obtain⟨z,A⟩:=o t (by simp)
  refine⟨p,q,WideElems.Trod_stays l z A w (λx a=>n.same (g x (by simp [a]))) (λx a=>i x (by simp [a])),?_,rfl⟩
  exact Mm l n (λt k=>o t (by simp [k])) y (λx a=>g x (by simp [a])) c λx a=>i x (by simp [a])
def Vz {H:Type}{enc:TypeId×Value→H}{P:Program}{f:Func}{s:ChangeSpec}{W j:World}{args:Array Value}{ds d:List (DataW H)}{a:List MemPlace}{tb:TypeId}
  (n:laidOutB P=true) (g:f.params.toList.all (λt=>P.readableRec t&&decide (t<P.types.size))=true) (i:DataW.Whole enc P f.params.toList s.vars false W args.toList ds d a)
  (o:f.resultTypes= #[tb]) (q:P.underlying tb=some .bool) (b:s.vars=[]) (u:(s.fn H (ds++d)).results=[.lit (.bool true)]) (v:(s.fn H (ds++d)).args=ds) (w:(s.fn H (ds++d)).vars=[])
  (k:Below W.heap.size W j):s.post enc P f false true false false W args (.bool true) j:=by
 have c:∀p∈a,p.block<W.heap.size:=λp y=>i.lt p y
 obtain⟨l,C,z,m,rfl,D,F⟩:=id i
 rw[b] at m
 obtain⟨rfl,rfl⟩:=trodVars_none m
 simp only[jW] at*
 refine⟨ds,[],l,[],l,[],by simpa using i,?_,?_,?_,?_,λh=>by cases h⟩
 ·simp only[jW]
  rw[u,o]
  exact trodAll_mk1 (shut_bool q true)
 ·simp only[jW]
  rw[v]
  refine Mm n k (λt A=>?_) z c _ λx B=>by simpa using c x B
  have:=iT.1 g t A
  simpa using this
 ·simp only[jW]
  rw[w,b]
  exact rfl
 ·exact k.frame _
def Ur {P:Program}{f:FuncId}{args:Array Value}{W:World}{L:(Nat→Prop)→BB→Prop}(k:Ct P f args (λb=>b<W.heap.size) W.heap (λv S' h'=>v= .bool true∧L S' h')):
  Calls P f args W λe c=>e= .returned (.bool true)∧Below W.heap.size W c:=
 (k W W ⟨rfl,rfl,rfl,rfl⟩).mono λe c ⟨v,S',h',g,a,d,i,_⟩=>by
  subst g;subst i
  exact⟨rfl,a.os,a.tape,a.out,by rw[a.heap];exact d.siz,λb j=>by rw[a.heap];exact d.same b j⟩
end Go.Proofs.YtibidnaedddfdaaGreat
namespace Go.Proofs.YtibidnaedddfdaaGreat
set_option linter.all false
open Go.ChangeShapes Go.WideShapes Go.ChangeAt Go.RowKit Go.Deep
section
variable {H:Type}{enc:TypeId×Value→H}{P:Program}{w:World}{base:Nat}{spare:Nat→Bool}{held:Bool}
def NJ:∀{l:List TypeId}{ds:List (DataW H)}{j:Nat}{t:TypeId}{d:DataW H},l[j]? =some t→ds[j]? =some d→∀q∈d.weights P t,q∈DataW.weightsEach P l ds
 |[],_,j,t,d,h,_=>by cases j<;>cases h
 |_::_,[],j,t,d,_,h=>by cases j<;>cases h
 |a::l,x::ds,0,t,d,b,c=>λq g=>by
  cases b;cases c
  simp only[DataW.weightsEach]
  exact lQ _ g
 |a::l,x::ds,j+1,t,d,b,c=>λq g=>by
  simp only[DataW.weightsEach]
  exact List.mem_append_right _ (NJ (l:=l) (ds:=ds) (j:=j) b c q g)
def Yo {R:Nat}{t e:TypeId}(d:P.underlying t=some (.slice e)) {b:Nat}{a:Option Addr}{len cap:Nat}{x:DataW H×List MemPlace}(h:DataW.trod enc P w base spare held b t [.slice a len cap]=some x) (g:∀q∈x.1.weights P t,q≤R):len*P.bytesOf e≤R:=by
 rcases open_slice d h with ⟨c,_⟩|⟨a',len',cap',m,n,D,Pl,c,_,_,_,_,rfl,_⟩
 ·cases c
  omega
 ·cases c
  simp only[DataW.weights,d] at g
  have i:=g _ (kI ..)
  rw[kZ,List.length_range] at i
  exact kO (kE _ (Nat.le_add_right _ _)) i
def bZ {t:TypeId}{i:Array Field}(k:P.underlying t=some (.struct i)) {a:Nat}{cs:List Value}{x:DataW H×List MemPlace}(h:DataW.trod enc P w base spare held a t cs=some x) {j:Nat}{f:Field}(g:i[j]? =some f):
  ∃n y,DataW.trod enc P w base spare held n f.type ((cs.drop f.offset).take (P.cellsOf f.type))=some y∧∀q∈y.1.weights P f.type,q∈x.1.weights P t:=by
 obtain⟨xs,n,_,m,s,b,o⟩:=DataW.trod_struct k h
 have l:=o j f g
 have c:j<xs.length:=by rw[b];exact(jM.1 g).1
 rw[jE c] at l
 refine⟨n,xs[j],l,λq p=>?_⟩
 subst m
 simp only[DataW.weights,k]
 refine NJ (j:=j) (t:=f.type) (d:=(xs[j]).1) ?_ ?_ q p
 ·rw[List.getElem?_map,Array.getElem?_toList,g];rfl
 ·rw[List.getElem?_map,jE c];rfl
def Sj {R:Nat}{t:TypeId}{b:Array Field}(i:P.underlying t=some (.struct b)) {v u:Value}{d:DataW H}{p:List MemPlace}(h:DataW.Trod enc P w base spare held t v d p) (m:∀q∈d.weights P t,q≤R) {j:Nat}{f:Field}(o:b[j]? =some f) {e:TypeId}(s:P.underlying f.type=some (.slice e)) (x:P.cellsOf f.type=1)
  (z:(v.cells.toList.drop f.offset).take 1=[u]) {α} {S:Nat→Prop} {A:BB} {r:B7 α} {l:List α} (k:Sl S A r u l):l.length*P.bytesOf e≤R:=by
 obtain⟨c,B⟩:=h
 obtain⟨n,y,g,C⟩:=bZ i B o
 obtain⟨a,cap,rfl,_⟩:=k.len
 rw[x,z] at g
 exact Yo s g λq D=>m q (C q D)
def W5 {R:Nat}{t e:TypeId}(c:P.underlying t=some (.slice e)) {v:Value}{d:DataW H}{p:List MemPlace}(h:DataW.Trod enc P w base spare held t v d p) (g:∀q∈d.weights P t,q≤R) {α}{S:Nat→Prop}{i:BB}{r:B7 α}{l:List α}(k:Sl S i r v l):l.length*P.bytesOf e≤R:=by
 obtain⟨b,j⟩:=h
 obtain⟨a,cap,rfl,_⟩:=k.len
 exact Yo c j g
end
end Go.Proofs.YtibidnaedddfdaaGreat
