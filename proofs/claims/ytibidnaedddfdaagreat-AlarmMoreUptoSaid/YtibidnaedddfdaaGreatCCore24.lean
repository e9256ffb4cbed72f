import Derived.Test.YtibidnaedddfdaaGreatCCore9
import Derived.Test.YtibidnaedddfdaaGreatRows
namespace Go.Proofs.YtibidnaedddfdaaGreat
set_option linter.unusedSimpArgs false
open Go.ChangeShapes Go.WideShapes Go.ChangeAt Go.RowKit Go.Deep
set_option linter.unusedVariables false
theorem Ur {H:Type}(d:DataW H):1≤Rows.uptoBulk d:=by
 cases d with
 |lit l=>cases l<;>simp [Rows.uptoBulk]
 |nil=>simp [Rows.uptoBulk]
 |ptr d=>simp [Rows.uptoBulk]
 |slice elems spare=>simp [Rows.uptoBulk]
 |agg parts=>simp [Rows.uptoBulk]
 |iface t d=>simp [Rows.uptoBulk]
 |map entries=>simp [Rows.uptoBulk]
 |held h=>simp [Rows.uptoBulk]
theorem Si {H:Type}{d:DataW H}{l:List (DataW H)}(h:d∈l):Rows.uptoBulk d≤Rows.uptoBulkAll l:=by
 induction l with
 |nil=>cases h
 |cons x r ih=>
  simp only[Rows.uptoBulkAll]
  cases List.mem_cons.1 h with
  |inl e=>subst e;omega
  |inr e=>have:=ih e;omega
theorem Us {H:Type}(l:List (DataW H)):l.length≤Rows.uptoBulkAll l:=by
 induction l with
 |nil=>simp [Rows.uptoBulkAll]
 |cons x r ih=>have:=Ur x;simp only[Rows.uptoBulkAll,List.length_cons];omega
theorem Q6 {H:Type}{l:List (DataW H)}(hk:Rows.uptoSmall H l=true):Rows.uptoBulkAll l≤1048576:=of_decide_eq_true hk
section
variable {H:Type}{enc:TypeId×Value→H}{P:Program}{w:World}{base:Nat}{spare:Nat→Bool}{held:Bool}
theorem R4 {t e:TypeId}(hu:P.underlying t=some (.slice e)) {fuel:Nat}{a:Option Addr}{len cap:Nat}{x:DataW H×List MemPlace}(h:DataW.trod enc P w base spare held fuel t [.slice a len cap]=some x):len≤Rows.uptoBulk x.1:=by
 rcases open_slice hu h with ⟨e1,_⟩|⟨a',len',cap',m,n,D,Pl,e1,_,_,_,_,rfl,_⟩
 ·cases e1
  exact Nat.zero_le _
 ·cases e1
  have:=Us ((List.range len).map D)
  rw[List.length_map,List.length_range] at this
  simp only[Rows.uptoBulk]
  omega
theorem V0 {t:TypeId}{fs:Array Field}(hu:P.underlying t=some (.struct fs)) {fuel:Nat}{cs:List Value}{x:DataW H×List MemPlace}(h:DataW.trod enc P w base spare held fuel t cs=some x) {j:Nat}{f:Field}(hj:fs[j]? =some f):
  ∃n y,DataW.trod enc P w base spare held n f.type ((cs.drop f.offset).take (P.cellsOf f.type))=some y∧Rows.uptoBulk y.1≤Rows.uptoBulk x.1:=by
 obtain⟨xs,n,_,hx,hl,hlen,hf⟩:=DataW.trod_struct hu h
 have h1:=hf j f hj
 have hjl:j<xs.length:=by rw[hlen];exact(Array.getElem?_eq_some_iff.1 hj).1
 rw[List.getElem?_eq_getElem hjl] at h1
 refine⟨n,xs[j],h1,?_⟩
 have hm:(xs[j]).1∈xs.map (·.1):=List.mem_map.2 ⟨_,List.getElem_mem hjl,rfl⟩
 have:=Si hm
 subst hx
 simp only[Rows.uptoBulk]
 omega
theorem R8 {t:TypeId}{fs:Array Field}(hu:P.underlying t=some (.struct fs)) {v u:Value}{d:DataW H}{p:List MemPlace}(h:DataW.Trod enc P w base spare held t v d p) {j:Nat}{f:Field}(hj:fs[j]? =some f) {e:TypeId}(he:P.underlying f.type=some (.slice e)) (hc:P.cellsOf f.type=1)
  (hv:(v.cells.toList.drop f.offset).take 1=[u]) {α} {S:Nat→Prop} {hh:AX} {r:AV α} {l:List α} (k:Sl S hh r u l):l.length≤Rows.uptoBulk d:=by
 obtain⟨fuel,hf⟩:=h
 obtain⟨n,y,h1,h2⟩:=V0 hu hf hj
 obtain⟨a,cap,rfl,_⟩:=k.len
 rw[hc,hv] at h1
 exact Nat.le_trans (R4 he h1) h2
theorem V1 {t e:TypeId}(he:P.underlying t=some (.slice e)) {v:Value}{d:DataW H}{p:List MemPlace}(h:DataW.Trod enc P w base spare held t v d p) {α}{S:Nat→Prop}{hh:AX}{r:AV α}{l:List α}(k:Sl S hh r v l):l.length≤Rows.uptoBulk d:=by
 obtain⟨fuel,hf⟩:=h
 obtain⟨a,cap,rfl,_⟩:=k.len
 exact R4 he hf
end
end Go.Proofs.YtibidnaedddfdaaGreat
