import Derived.Test.YtblcgjadhemlbaaGreatUCore22
namespace Go.Proofs.YtblcgjadhemlbaaGreat
open Go.RowKit
set_option linter.unusedVariables false
set_option linter.unusedSimpArgs false
def iT {α}(l:List α) (i:Int):Option (List α):=if 0≤i∧i≤l.length∧0<l.length then some (l.take i.toNat) else none
section
variable {P:Program}{ops:Array Oper}{C:World→Prop}{Q:Act→Prop}{n:FN}{m m':SM}{rest:List Oper}
variable {d:Nat}{ty:TypeId}{pos:String}{af:Array Edge}{X Y Z:Operand}{t:TypeId}{kd:IntKind}{v p:Value}{S:Nat→Prop}{h:Av}
theorem Sl.ne {α}{r:AM α}{l:List α}(k:Sl S h r v l) (h0:0<l.length):∃(b o cap:Nat),v= .slice (some ⟨b,o,none⟩) l.length cap∧l.length≤cap∧cap≤maxLen∧∀i x,l[i]? =some x→Pt S h r (.pointer (some ⟨b,o+i*r.sz,none⟩)) x:=by
 rcases k with ⟨_,rfl⟩|⟨a,cap,h1,h4,h5,h6⟩
 ·cases h0
 ·have hs:=(h6 0 l[0] (by simp [h0])).1
  obtain⟨b,o,sp⟩:=a
  simp only at hs
  subst hs
  exact⟨b,o,cap,h1,h4,h5,λi x hi=>(h6 i x hi).2⟩
theorem Yo {α}{r:AM α}{e:TypeId}{l l':List α}{y:Int}(hx:Bf m X=some v) (hy:Bf m Y=some (.int kd y)) (k0:Sl S h r v l) (ht:KM P t e r.sz=true) (hv:iT l y=some l') (hd:Nat.blt d n.1=true)
  (k:∀u,Sl S h r u l'→QF P ops C Q rest n ((d,u)::m)):QF P ops C Q (⟨some d,.slice t X none (some Y) none,ty,pos,af,none⟩::rest) n m:=by
 unfold iT at hv
 split at hv
 ·rename_i hc
  obtain⟨c1,c2,c3⟩:=hc
  cases hv
  obtain⟨b,o,cap,rfl,h1,h2,h3⟩:=k0.ne c3
  refine Xj hx hy (j:=y.toNat) (by omega) ht (by omega) hd (k _ (.inr ⟨⟨b,o,none⟩,cap,?_,?_,h2,λi x hi=>⟨rfl,?_⟩⟩))
  ·rw[List.length_take,Nat.min_eq_left (by omega)]
  ·rw[List.length_take];omega
  ·rw[List.getElem?_take] at hi
   split at hi
   ·exact h3 i x hi
   ·cases hi
 ·cases hv
end
end Go.Proofs.YtblcgjadhemlbaaGreat
namespace Go.Proofs.YtblcgjadhemlbaaGreat
open Go.RowKit
set_option linter.unusedVariables false
set_option linter.unusedSimpArgs false
def Gu:AM Value where
 sz:=1
 ag:=false
 rd:=λ_ _ cs x=>cs=[x]∧x.oneCell'=true
 len:=λ⟨h,_⟩=>by rw[h];rfl
 one:=λ⟨h,k⟩ v hv=>by rw[h] at hv;simp at hv;rw[hv];exact k
 mono:=λk _ _=>k
def SA {α}(r:AM α) (e:TypeId):List Value→List (List α)→List HP
 |u::us,l::ls=>OS r e u l::SA r e us ls
 |_,_=>[]
def OO {α}(r:AM α) (e T:TypeId) (v:Value) (ll:List (List α)):HP where
 holds:=λS F h=>∃vs:List Value,vs.length=ll.length∧Sp S (OS Gu T v vs::SA r e vs ll) h F
 loc:=λ⟨vs,hl,k⟩ s e=>⟨vs,hl,Sp.ext k s e λ_ x=>x⟩
section
variable {α:Type}{r:AM α}{e T:TypeId}{v u:Value}{l:List α}{vs:List Value}{ll:List (List α)}{S F:Nat→Prop}{h:Av}{L L2:List HP}
theorem St.ooOpen (hs:St S (OO r e T v ll::L) h):∃vs:List Value,vs.length=ll.length∧St S (OS Gu T v vs::O1 (SA r e vs ll)::L) h:=by
 obtain⟨F,⟨vs,hl,G,g1,g2,g3⟩,k2,k3⟩:=hs.2
 exact⟨vs,hl,hs.1,G,g1,λb hb=>k2 b (g2 b hb),λb=>F b∧¬G b,g3,λb hb=>⟨k2 b hb.1,hb.2⟩,k3.mono λb hb=>⟨⟨hb.1,λx=>hb.2 (g2 b x)⟩,λx=>hb.2 x.1⟩⟩
theorem NO (hl:vs.length=ll.length) (hs:St S (OS Gu T v vs::O1 (SA r e vs ll)::L) h):St S (OO r e T v ll::L) h:=by
 obtain⟨G,g1,g2,F2,g3,g4,g5⟩:=hs.2
 exact⟨hs.1,λb=>G b∨F2 b,⟨vs,hl,G,g1,λ_ x=> .inl x,Sp.mono g3 λb hb=>⟨.inr hb,(g4 b hb).2⟩⟩,λb hb=>hb.elim (g2 b) λx=>(g4 b x).1,g5.mono λb hb=>⟨hb.1.1,λx=>x.elim hb.1.2 hb.2⟩⟩
theorem SA.pick:∀{vs:List Value}{ll:List (List α)}{i:Nat}{u:Value}{l:List α},vs[i]? =some u→ll[i]? =some l→
  ∃M,M7 (SA r e vs ll) (OS r e u l) M∧∀u' l',M7 (SA r e (vs.set i u') (ll.set i l')) (OS r e u' l') M
 |[],_,_,_,_,hu,_=>by simp at hu
 |_::_,[],_,_,_,_,hl=>by simp at hl
 |u0::us,l0::ls,0,u,l,hu,hl=>by
  simp only[List.getElem?_cons_zero,Option.some.injEq] at hu hl
  subst hu;subst hl
  exact⟨_,.head,λ_ _=> .head⟩
 |u0::us,l0::ls,i+1,u,l,hu,hl=>by
  simp only[List.getElem?_cons_succ] at hu hl
  obtain⟨M,p,q⟩:=SA.pick hu hl
  exact⟨_,.tail p,λu' l'=> .tail (q u' l')⟩
theorem OK {i:Nat}(hu:vs[i]? =some u) (hl:ll[i]? =some l):∃M,(∀{S:Nat→Prop}{h:Av}{L:List HP},St S (O1 (SA r e vs ll)::L) h→St S (OS r e u l::O1 M::L) h)∧
  ∀u' l' {S:Nat→Prop} {h:Av} {L:List HP},St S (OS r e u' l'::O1 M::L) h→St S (O1 (SA r e (vs.set i u') (ll.set i l'))::L) h:=by
 obtain⟨M,p,q⟩:=SA.pick (r:=r) (e:=e) hu hl
 refine⟨M,λ{S h L} hs=>?_,λu' l' {S h L} hs=>?_⟩
 ·obtain⟨F,k1,k2,k3⟩:=hs.2
  obtain⟨G,g1,g2,g3⟩:=Sp.pick p k1
  exact⟨hs.1,G,g1,λb hb=>k2 b (g2 b hb),λb=>F b∧¬G b,g3,λb hb=>⟨k2 b hb.1,hb.2⟩,k3.mono λb hb=>⟨⟨hb.1,λx=>hb.2 (g2 b x)⟩,λx=>hb.2 x.1⟩⟩
 ·obtain⟨G,g1,g2,F2,g3,g4,g5⟩:=hs.2
  exact⟨hs.1,λb=>G b∨F2 b,LW (q u' l') ⟨G,g1,λ_ x=> .inl x,Sp.mono g3 λb hb=>⟨.inr hb,(g4 b hb).2⟩⟩,λb hb=>hb.elim (g2 b) λx=>(g4 b x).1,g5.mono λb hb=>⟨hb.1.1,λx=>x.elim hb.1.2 hb.2⟩⟩
theorem RJ:∀{vs:List Value}{cs:List Value},KK S h Gu cs vs→cs=vs
 |[],_,k=>k
 |x::vs,cs,⟨c1,c2,e,k1,k2⟩=>by
  have a:c1=[x]:=k1.1
  have b:=RJ k2
  subst e;subst a;subst b;rfl
theorem UK {S2:Nat→Prop}:∀{vs:List Value}{ll:List (List α)},vs.length=ll.length→(∀(i:Nat) (u:Value) (l:List α),vs[i]? =some u→ll[i]? =some l→Sl S2 h r u l)→KK S2 h (AM.sl r) vs ll
 |[],[],_,_=>rfl
 |u::vs,l::ll,hl,k=>⟨[u],vs,rfl,⟨u,rfl,k 0 u l rfl rfl⟩,UK (Nat.succ.inj hl) λi u' l' a b=>k (i+1) u' l' a b⟩
theorem Wh {S2:Nat→Prop}:∀{vs:List Value}{ll:List (List α)}{A:Nat→Prop},Sp S (SA r e vs ll) h A→(∀b,S b→S2 b)→(∀b,A b→S2 b)→∀(i:Nat) (u:Value) (l:List α),vs[i]? =some u→ll[i]? =some l→Sl S2 h r u l
 |[],_,_,_,_,_,_,_,_,hu,_=>by simp at hu
 |_::_,[],_,_,_,_,_,_,_,_,hl=>by simp at hl
 |u0::us,l0::ls,A,⟨F,k1,k2,k3⟩,s,a,0,u,l,hu,hl=>by
  simp only[List.getElem?_cons_zero,Option.some.injEq] at hu hl
  subst hu;subst hl
  exact OS.sl (HP.loc _ k1 s λ_ _=>rfl) λb hb=>a b (k2 b hb)
 |u0::us,l0::ls,A,⟨F,k1,k2,k3⟩,s,a,i+1,u,l,hu,hl=>by
  simp only[List.getElem?_cons_succ] at hu hl
  exact Wh k3 s (λb hb=>a b hb.1) i u l hu hl
theorem St.ooPub (hs:St S (OO r e T v ll::L) h):∃S',St S' (OS (AM.sl r) T v ll::L) h∧B9 S h S' h:=by
 obtain⟨vs,hl,hs⟩:=hs.ooOpen
 obtain⟨F,h1,h2,h3,h4⟩:=hs.pub (.tail .head)
 have ks:=Wh (S2:=λb=>S b∨F b) h1 (λ_ x=> .inl x) λ_ x=> .inr x
 refine⟨_,?_,h4⟩
 obtain⟨G,g1,g2,g3⟩:=h3.2
 refine⟨h3.1,G,?_,g2,g3⟩
 rcases g1 with ⟨e1,e2,e3⟩|⟨g,cap,cur,k1,k2,k3,k4,k5,k6,k7⟩
 ·subst e2
  have:ll=[]:=List.length_eq_zero_iff.1 hl.symm
  exact .inl ⟨e1,this,e3⟩
 ·rw[hl] at k1 k4 k7
  refine .inr ⟨g,cap,cur,k1,k2,k3,k4,k5,k6,?_⟩
  have e7:=RJ k7
  have:=UK hl ks
  rw[←e7] at this
  exact this
theorem Ua:∀{n:Nat}{A:Nat→Prop},Sp S (SA r e (List.replicate n (.slice none 0 0)) (List.replicate n ([]:List α))) h A
 |0,_=>trivial
 |n+1,A=>⟨λ_=>False,.inl ⟨⟨none,rfl⟩,rfl,λ_ x=>x⟩,λ_ x=>x.elim,Ua⟩
theorem St.ooNil {n:Nat}(hs:St S (OS Gu T v (List.replicate n (.slice none 0 0))::L) h):St S (OO r e T v (List.replicate n ([]:List α))::L) h:=by
 refine NO (vs:=List.replicate n (.slice none 0 0)) (by simp) ?_
 obtain⟨G,g1,g2,g3⟩:=hs.2
 exact⟨hs.1,G,g1,g2,λ_=>False,Ua,λ_ x=>x.elim,g3.mono λb hb=>⟨hb,λx=>x⟩⟩
end
end Go.Proofs.YtblcgjadhemlbaaGreat
namespace Go.Proofs.YtblcgjadhemlbaaGreat
open Go.RowKit
set_option linter.unusedVariables false
set_option linter.unusedSimpArgs false
abbrev Ym (β:Type):=(Nat→Prop)→Av→Value→β→Prop
def AM.fnr {α β:Type}(P:Program) (AR:R9 α) (RR:Ym β):AM (α→Option β) where
 sz:=1
 ag:=false
 rd:=λS h cs φ=>∃(f:FuncId) (caps:Array Value),cs=[.func (.func f) #[] caps]∧BQ P f=true∧∀(S':Nat→Prop) (h':Av),(∀b,S b→S' b)→(∀b,S b→h'[b]? =h[b]?)→∀L,St S' L h'→∀x y vs,AR S' h' vs x→φ x=some y→
  CG P f (vs++caps.toList).toArray S' h' (λv S'' h''=>RR S'' h'' v y∧St S'' L h'')
 len:=λ⟨_,_,h,_⟩=>by rw[h];rfl
 one:=λ⟨_,_,h,_⟩ v hv=>by rw[h] at hv;simp at hv;rw[hv];rfl
 mono:=λ⟨f,caps,h1,h2,h3⟩ s e=>⟨f,caps,h1,h2,λS' h' s' e'=>h3 S' h' (λb hb=>s' b (s b hb)) λb hb=>(e' b (s b hb)).trans (e b hb)⟩
theorem Rd.fnr {α β:Type}{P:Program}{AR:R9 α}{RR:Ym β}{S h v}{φ:α→Option β}(k:Rd S h (AM.fnr P AR RR) v φ):
  ∃(f:FuncId) (caps:Array Value),v= .func (.func f) #[] caps∧BQ P f=true∧∀(S':Nat→Prop) (h':Av),(∀b,S b→S' b)→(∀b,S b→h'[b]? =h[b]?)→∀L,St S' L h'→∀x y vs,AR S' h' vs x→φ x=some y→
  CG P f (vs++caps.toList).toArray S' h' (λv S'' h''=>RR S'' h'' v y∧St S'' L h''):=by
 obtain⟨_,rfl,f,caps,rfl,h⟩:=k
 exact⟨f,caps,rfl,h⟩
theorem J6 {α β:Type}{P:Program}{AR:R9 α}{RR:Ym β}{S h}{φ:α→Option β}(f:FuncId) (caps:Array Value) (h1:BQ P f=true)
  (h2:∀(S':Nat→Prop) (h':Av),(∀b,S b→S' b)→(∀b,S b→h'[b]? =h[b]?)→∀L,St S' L h'→∀x y vs,AR S' h' vs x→φ x=some y→CG P f (vs++caps.toList).toArray S' h' (λv S'' h''=>RR S'' h'' v y∧St S'' L h'')):
  Rd S h (AM.fnr P AR RR) (.func (.func f) #[] caps) φ:=⟨_,rfl,f,caps,rfl,h1,h2⟩
def kF {α β:Type}(r:AM α) (r':AM β):Ym (List α×List β):=λS h v y=>∃v1 v2,v= .tuple #[v1,v2]∧Sl S h r v1 y.1∧Sl S h r' v2 y.2
theorem CG.grow {P f args S h}{post post':Value→(Nat→Prop)→Av→Prop}(k:CG P f args S h post) (hp:∀v S' h',post v S' h'→∃S2,B9 S' h' S2 h'∧post' v S2 h'):CG P f args S h post':=
 λB w hw=>(k B w hw).mono λ_ _ ⟨v,S',h',h1,h2,h3,h4⟩=>let ⟨S2,e,h5⟩:=hp v S' h' h4;⟨v,S2,h',h1,h2,h3.trans e,h5⟩
theorem Mg {α β:Type}{r:AM α}{r':AM β}{e e':TypeId}{P:Program}{f:FuncId}{args:Array Value}{S:Nat→Prop}{h:Av}{L:List HP}{y:List α×List β}
  (k:CG P f args S h (λv S' h'=>∃v1 v2,v= .tuple #[v1,v2]∧St S' (OS r e v1 y.1::OS r' e' v2 y.2::L) h')):
  CG P f args S h (λv S' h'=>kF r r' S' h' v y∧St S' L h'):=by
 refine k.grow λv S' h' ⟨v1,v2,hv,hs⟩=>?_
 obtain⟨S1,hs1,e1,k1⟩:=hs.pubs .head
 obtain⟨S2,hs2,e2,k2⟩:=hs1.pubs .head
 exact⟨S2,e1.trans e2,⟨v1,v2,hv,k1.mono e2.sub e2.same,k2⟩,hs2⟩
end Go.Proofs.YtblcgjadhemlbaaGreat
