import Derived.Test.YtibidnaedddfdaaGreatCCore20
namespace Go.Proofs.YtibidnaedddfdaaGreat
open Go.RowKit
set_option linter.unusedVariables false
set_option linter.unusedSimpArgs false
def VS:List Nat→Nat→List HP→Option (List HP)
 |[],m,L=>some (L.drop m)
 |i::is,m,L=>match L[i]? with
  |some H=>match VS is m (L.eraseIdx i) with
   |some r=>some (H::r)
   |none=>none
  |none=>none
theorem RY:∀{L:List HP}{i:Nat}{H:HP},L[i]? =some H→L7 L H (L.eraseIdx i)
 |[],i,H,h=>by simp at h
 |K::L,0,H,h=>by
  simp only[List.getElem?_cons_zero,Option.some.injEq] at h
  subst h
  exact .head
 |K::L,i+1,H,h=>by
  simp only[List.getElem?_cons_succ] at h
  exact .tail (RY h)
theorem Sp.dropn {S:Nat→Prop}{h:AX}:∀(m:Nat) {L:List HP}{A:Nat→Prop},Sp S L h A→Sp S (L.drop m) h A
 |0,L,A,k=>k
 |m+1,[],A,k=>k
 |m+1,H::L,A,⟨F,_,_,k⟩=>Sp.dropn m (k.mono λb hb=>hb.1)
theorem Sp.sel {S:Nat→Prop}{h:AX}:∀(is:List Nat) {m:Nat}{L L':List HP}{A:Nat→Prop},VS is m L=some L'→Sp S L h A→Sp S L' h A
 |[],m,L,L',A,e,k=>by cases e;exact k.dropn m
 |i::is,m,L,L',A,e,k=>by
  simp only[VS] at e
  split at e
  ·rename_i H hH
   split at e
   ·rename_i r hr
    cases e
    obtain⟨F,k1,k2,k3⟩:=Sp.pick (RY hH) k
    exact⟨F,k1,k2,Sp.sel is hr k3⟩
   ·cases e
  ·cases e
theorem St.sel {S:Nat→Prop}{h:AX}{L L':List HP}(hs:St S L h) (is:List Nat) (m:Nat) (e:VS is m L=some L'):St S L' h:=⟨hs.1,Sp.sel is e hs.2⟩
abbrev IV (B:World) (S:Nat→Prop) (h:AX) (n:FN) (a:Act) (w:World) (m:SM) (L:List HP) (F:(Nat→Prop)→AX→Prop):Prop:=∃(S':Nat→Prop) (h':AX),Fr n a m∧Wd B h' w∧St S' L h'∧Bc S h S' h'∧F S' h'
theorem Ra {vs:List Value}(h:vs.all (·.oneCell')=true):∀u∈vs,u.oneCell'=true:=λu hu=>List.all_eq_true.1 h u hu
section
variable {P:Program}{ops:Array Oper}{Q:Exit→Act→World→Prop}{n:FN}{m:SM}{rest:List Oper}
variable {d:Nat}{ty:TypeId}{pos:String}{af:Array Edge}{X Y:Operand}{B:World}{h:AX}{S:Nat→Prop}{L L2:List HP}{v:Value}
theorem H3 {T T':TypeId}{b o:Nat}{cs vs cs':List Value}{sz:Nat}{ag:Bool}(hx:BP m X=some (.pointer (some ⟨b,o,none⟩))) (hy:BP m Y=some v) (hv:v.cells=vs.toArray) (h1:vs.all (·.oneCell')=true)
  (ht:GI P T sz ag=true) (hsz:vs.length=sz) (hs:St S L h) (r:IZ L (Bx b T' cs) (Bx b T' cs') L2) (hfit:Nat.ble (o+sz) cs.length=true) (hp:EX cs o vs=cs')
  (k:∀h',St S L2 h'→Bc S h S h'→LF P ops Q rest B h' n m):LF P ops Q (⟨none,.store T X Y,ty,pos,af,none⟩::rest) B h n m:=LF.st hx hy hv (Ra h1) ht hsz hs r hfit hp k
theorem Ad {T T':TypeId}{b:Nat}{cs vs:List Value}{sz:Nat}{ag:Bool}(hx:BP m X=some (.pointer (some ⟨b,0,none⟩))) (hy:BP m Y=some v) (hv:v.cells=vs.toArray) (h1:vs.all (·.oneCell')=true)
  (ht:GI P T sz ag=true) (hsz:Nat.beq vs.length sz=true) (hs:St S L h) (r:IZ L (Bx b T' cs) (Bx b T' vs) L2) (hl:Nat.beq cs.length sz=true)
  (k:∀h',St S L2 h'→Bc S h S h'→LF P ops Q rest B h' n m):LF P ops Q (⟨none,.store T X Y,ty,pos,af,none⟩::rest) B h n m:=by
 have e1:=Nat.eq_of_beq_eq_true hsz
 have e2:=Nat.eq_of_beq_eq_true hl
 refine LF.st hx hy hv (Ra h1) ht e1 hs r (by simp [e2]) ?_ k
 unfold EX
 rw[List.drop_eq_nil_of_le (by omega)]
 simp
end
section
variable {P:Program}{ops:Array Oper}{C:World→Prop}{Q:Act→Prop}{n:FN}{m:SM}{rest:List Oper}{v:Value}
variable {d:Nat}{ty:TypeId}{pos:String}{af:Array Edge}{X Y:Operand}{h:AX}{S:Nat→Prop}{L:List HP}{t:TypeId}
theorem AI {T b o:Nat}{cs:List Value}(ck:CK C h) (hs:St S L h) (hx:BP m X=some (.pointer (some ⟨b,o,none⟩))) (hm:Bx b T cs∈L) (hv:cs[o]? =some v) (ht:GI P t 1 false=true) (hd:Nat.blt d n.1=true)
  (k:QF P ops C Q rest n ((d,v)::m)):QF P ops C Q (⟨some d,.load t X,ty,pos,af,none⟩::rest) n m:=by
 have e:(cs.drop o).take 1=[v]:=by
  have hlt:=(List.getElem?_eq_some_iff.1 hv).1
  have hg:=(List.getElem?_eq_some_iff.1 hv).2
  rw[List.drop_eq_getElem_cons hlt,hg]
  simp
 exact QF.ldo (vs:=[v]) ck hs hx hm e rfl ht rfl hd k
theorem YA {o:Oper}{j e:Nat}{b:Bool}{u:Value}(hg:o.guard=some (j,b)) (hj:(ops[j]?).bind (·.dst)=some e) (hb:lk m e=some u) (hu:yb u≠some b) (ho:o.dst=some d) (hd:Nat.blt d n.1=true) (k:QF P ops C Q rest n ((d,undef)::m)):QF P ops C Q (o::rest) n m:=by
 intro a hf
 have hw:Region.wanted o (yielded ops a.tmps)=false:=by
  have:=hf.at_ e _ hb
  cases u<;>simp_all [Region.wanted,yielded,yb]
 unfold wpQuiet
 rw[if_neg (by rw[hw];exact Bool.false_ne_true),ho]
 exact k _ (hf.put hd _)
def Y5 (op:Op) (m:SM):Option Value:=
 match op with
 | .pick c x y=>match BP m c with
  |some (.bool true)=>BP m x
  |some (.bool false)=>BP m y
  |_=>none
 |_=>none
def Qi (ops:Array Oper) (k:Nat):List Oper→SM→Option SM
 |[],m=>some m
 |o::r,m=>match o.guard,o.dst with
  |some (j,b),some d=>match (ops[j]?).bind (·.dst) with
   |some e=>match lk m e with
    |some u=>match yb u,b with
     |some true,true=>match Y5 o.op m with
      |some v=>cond (Nat.blt d k) (Qi ops k r ((d,v)::m)) none
      |none=>none
     |some false,false=>match Y5 o.op m with
      |some v=>cond (Nat.blt d k) (Qi ops k r ((d,v)::m)) none
      |none=>none
     |_,_=>cond (Nat.blt d k) (Qi ops k r ((d,undef)::m)) none
    |none=>none
   |none=>none
  |none,some d=>match Y5 o.op m with
   |some v=>cond (Nat.blt d k) (Qi ops k r ((d,v)::m)) none
   |none=>none
  |_,none=>none
theorem Kj {α:Type}{c:Bool}{x:Option α}{y:α}(h:cond c x none=some y):c=true∧x=some y:=by cases c<;>simp_all
theorem RH {u:Value}{b:Bool}(h:yb u=some b):u= .bool b:=by
 cases u<;>simp_all [yb]
theorem Q9 {o:Oper}{d:Nat}{v:Value}(hg:o.guard=none) (hd:o.dst=some d) (hv:Y5 o.op m=some v) (hb:Nat.blt d n.1=true) (k:QF P ops C Q rest n ((d,v)::m)):QF P ops C Q (o::rest) n m:=by
 obtain⟨od,oo,ot,op_,oa,og⟩:=o
 simp only at hg hd hv
 subst hg hd
 unfold Y5 at hv
 split at hv
 ·split at hv
  ·rename_i hc;exact QF.pick hc hv hb k
  ·rename_i hc;exact QF.pick hc hv hb k
  ·cases hv
 ·cases hv
theorem L6:∀{l:List Oper}{m m':SM},Qi ops n.1 l m=some m'→QF P ops C Q [] n m'→QF P ops C Q l n m
 |[],m,m',h,k=>by cases h;exact k
 |o::r,m,m',h,k=>by
  simp only[Qi] at h
  split at h
  ·rename_i j b d hg hd
   split at h
   ·rename_i e he
    split at h
    ·rename_i u hu
     split at h
     ·rename_i hy
      split at h
      ·rename_i v hv
       obtain⟨c1,c2⟩:=Kj h
       have:=RH hy
       subst this
       exact QF.gy hg he hu (Q9 rfl hd hv c1 (L6 c2 k))
      ·cases h
     ·rename_i hy
      split at h
      ·rename_i v hv
       obtain⟨c1,c2⟩:=Kj h
       have:=RH hy
       subst this
       exact QF.gy hg he hu (Q9 rfl hd hv c1 (L6 c2 k))
      ·cases h
     ·rename_i n1 n2
      obtain⟨c1,c2⟩:=Kj h
      refine YA hg he hu (λe0=>?_) hd c1 (L6 c2 k)
      generalize hzz:yb u=zz at*
      subst e0
      revert n1 n2
      intro n1 n2
      exact Bool.rec (motive:=λq=>(some q=some true→q=true→False)→(some q=some false→q=false→False)→False) (λ_ h=>h rfl rfl) (λh _=>h rfl rfl) _ n1 n2
    ·cases h
   ·cases h
  ·rename_i d hg hd
   split at h
   ·rename_i v hv
    obtain⟨c1,c2⟩:=Kj h
    exact Q9 hg hd hv c1 (L6 c2 k)
   ·cases h
  ·cases h
theorem AH {m':SM}(hs:Y9 (m'.map (·.1)) m=some m'):QF P ops C (λa=>Fr n a m') [] n m:=QF.cutn (kp _ hs)
theorem AK {l:List Oper}{m2 m':SM}(h:Qi ops n.1 l m=some m2) (hs:Y9 (m'.map (·.1)) m2=some m'):QF P ops C (λa=>Fr n a m') l n m:=L6 h (AH hs)
end
section
variable {P:Program}{ops:Array Oper}{Q:Act→Prop}{n:FN}{m:SM}{rest:List Oper}{d:Nat}{ty:TypeId}{pos:String}{af:Array Edge}{X:Operand}{v:Value}{Ψ:Prop}{f:Nat}{xs:Array Operand}{tys:Array TypeId}{args vs:List Value}{first cap:Array Value}{h:AX}{B:World}{Z:(Nat→Prop)→AX→Prop}
theorem Aa (hX:BP m X=some (.func (.func f) first cap)) (hxs:xs.toList.mapM (BP m)=some args) (hvs:first.toList++args++cap.toList=vs) (hcb:Aj P f=true) (hd:Nat.blt d n.1=true)
  (hc:∀h',BX h h'→Bf P f vs.toArray (λb=>b<h'.size) h' (λu S' h2=>u=v∧Z S' h2))
  (k:QF P ops (Cl B h) Q rest n ((d,v)::m)):QF P ops (Cl B h) Q (⟨some d,.call ⟨.value X,xs,tys⟩,ty,pos,af,none⟩::rest) n m:=
 GE (Ψ:=True) hX hxs hvs hcb hd (λh' o=>(hc h' o).mono λ_ _ _ _ p=>⟨p.1,trivial⟩) λ_=>k
theorem Ao (hX:BP m X=some (.func (.func f) first cap)) (hxs:xs.toList.mapM (BP m)=some args) (hvs:first.toList++args++cap.toList=vs) (hcb:Aj P f=true) (hd:Nat.blt d n.1=true)
  (hc:∀h',BX h h'→Bf P f vs.toArray (λb=>b<h'.size) h' (λu S' h2=>u=v∧Ψ∧Z S' h2))
  (k:Ψ→QF P ops (Cl B h) Q rest n ((d,v)::m)):QF P ops (Cl B h) Q (⟨some d,.call ⟨.value X,xs,tys⟩,ty,pos,af,none⟩::rest) n m:=
 GE hX hxs hvs hcb hd (λh' o=>(hc h' o).mono λ_ _ _ _ p=>⟨p.1,p.2.1⟩) k
end
theorem iq {n:Int}(h:(decide (-9223372036854775808≤n)&&decide (n≤9223372036854775807))=true):AB n:=by
 simp only[Bool.and_eq_true,decide_eq_true_eq] at h
 exact h
theorem Jk {n:Nat}(h:n≤maxLen):AB (n:Int):=by unfold maxLen at h;unfold AB;omega
section
variable {P:Program}{fn:Func}{B:World}{S S':Nat→Prop}{h h':AX}{post:Value→(Nat→Prop)→AX→Prop}{a:Act}{m:SM}{w:World}
theorem DD {k t:Nat}{v:Value}(hf:Fr (k,[]) a m) (hw:Wd B h' w) (hr:fn.results= #[.tmp t]) (hv:lk m t=some v) (e:Bc S h S' h') (kp:post v S' h'):Rt P fn B S h post a w:=rt1 hf hr hv hw e kp
end
end Go.Proofs.YtibidnaedddfdaaGreat
