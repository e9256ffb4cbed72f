import Derived.Test.YtibidnaedddfdaaGreatCCore22
namespace Go.Proofs.YtibidnaedddfdaaGreat
open Go.RowKit
set_option linter.unusedVariables false
set_option linter.unusedSimpArgs false
def Yg {α}(l:List α) (i:Int):Option (List α):=if 0≤i∧i≤l.length∧0<l.length then some (l.take i.toNat) else none
def Yh {α}(l:List α) (i:Int):Option (List α):=if 0≤i∧i<l.length then some (l.drop i.toNat) else none
section
variable {P:Program}{ops:Array Oper}{C:World→Prop}{Q:Act→Prop}{n:FN}{m m':SM}{rest:List Oper}
variable {d:Nat}{ty:TypeId}{pos:String}{af:Array Edge}{X Y Z:Operand}{t:TypeId}{kd:IntKind}{v p:Value}{S:Nat→Prop}{h:AX}
theorem Sl.ne {α}{r:AV α}{l:List α}(k:Sl S h r v l) (h0:0<l.length):∃(b o cap:Nat),v= .slice (some ⟨b,o,none⟩) l.length cap∧l.length≤cap∧cap≤maxLen∧∀i x,l[i]? =some x→Pt S h r (.pointer (some ⟨b,o+i*r.sz,none⟩)) x:=by
 rcases k with ⟨_,rfl⟩|⟨a,cap,h1,h4,h5,h6⟩
 ·cases h0
 ·have hs:=(h6 0 l[0] (by simp [h0])).1
  obtain⟨b,o,sp⟩:=a
  simp only at hs
  subst hs
  exact⟨b,o,cap,h1,h4,h5,λi x hi=>(h6 i x hi).2⟩
theorem V8 {α}{r:AV α}{e:TypeId}{l l':List α}{y:Int}(hx:BP m X=some v) (hy:BP m Y=some (.int kd y)) (k0:Sl S h r v l) (ht:IC P t e r.sz=true) (hv:Yg l y=some l') (hd:Nat.blt d n.1=true)
  (k:∀u,Sl S h r u l'→QF P ops C Q rest n ((d,u)::m)):QF P ops C Q (⟨some d,.slice t X none (some Y) none,ty,pos,af,none⟩::rest) n m:=by
 unfold Yg at hv
 split at hv
 ·rename_i hc
  obtain⟨c1,c2,c3⟩:=hc
  cases hv
  obtain⟨b,o,cap,rfl,h1,h2,h3⟩:=k0.ne c3
  refine Q8 hx hy (j:=y.toNat) (by omega) ht (by omega) hd (k _ (.inr ⟨⟨b,o,none⟩,cap,?_,?_,h2,λi x hi=>⟨rfl,?_⟩⟩))
  ·rw[List.length_take,Nat.min_eq_left (by omega)]
  ·rw[List.length_take];omega
  ·rw[List.getElem?_take] at hi
   split at hi
   ·exact h3 i x hi
   ·cases hi
 ·cases hv
theorem V9 {α}{r:AV α}{e:TypeId}{l l':List α}{y:Int}(hx:BP m X=some v) (hy:BP m Y=some (.int kd y)) (k0:Sl S h r v l) (ht:IC P t e r.sz=true) (hv:Yh l y=some l') (hd:Nat.blt d n.1=true)
  (k:∀u,Sl S h r u l'→QF P ops C Q rest n ((d,u)::m)):QF P ops C Q (⟨some d,.slice t X (some Y) none none,ty,pos,af,none⟩::rest) n m:=by
 unfold Yh at hv
 split at hv
 ·rename_i hc
  obtain⟨c1,c2⟩:=hc
  cases hv
  obtain⟨b,o,cap,rfl,h1,h2,h3⟩:=k0.ne (by omega)
  refine KP hx hy (j:=y.toNat) (by omega) ht (by omega) (by omega) hd (k _ (.inr ⟨⟨b,o+y.toNat*r.sz,none⟩,cap-y.toNat,?_,?_,by omega,λi x hi=>⟨rfl,?_⟩⟩))
  ·rw[List.length_drop]
  ·rw[List.length_drop];omega
  ·rw[List.getElem?_drop] at hi
   have:=h3 _ x hi
   rw[Nat.add_mul,←Nat.add_assoc] at this
   exact this
 ·cases hv
end
end Go.Proofs.YtibidnaedddfdaaGreat
