import Derived.Test.YtblcgjadhemlbaaGreatUCore18
import Derived.Maps.RangeRun
namespace Go.Proofs.YtblcgjadhemlbaaGreat
open Go.RowKit
set_option linter.unusedVariables false
set_option linter.unusedSimpArgs false
def eL:List Nat→SM→Option SM
 |[],_=>some []
 |k::ks,m=>match lk m k with
  |some v=>match eL ks m with
   |some r=>some ((k,v)::r)
   |none=>none
  |none=>none
theorem kp:∀{m m':SM}(ks:List Nat),eL ks m=some m'→Qv m m'
 |m,m',[],h=>by cases h;trivial
 |m,m',k::ks,h=>by
  simp only[eL] at h
  split at h
  ·rename_i v hv
   split at h
   ·rename_i r hr
    cases h
    exact⟨hv,kp ks hr⟩
   ·cases h
  ·cases h
def Vb {α:Type}(S:Nat→Prop) (h:Av) (r:AM α) (T:TypeId) (l:List α) (v:Value) (hh:Av):Prop:=∃g cap,v= .slice (some ⟨g,0,none⟩) l.length cap∧h.size≤g∧g<hh.size∧(OS r T v l).holds S (λb=>b=g) hh
theorem Vb.mono {α:Type}{S:Nat→Prop}{h h1 h2:Av}{r:AM α}{T:TypeId}{l:List α}{v:Value}(k:Vb S h r T l v h1) (hS:∀b,S b→b<h.size) (o:Ep h1 h2):Vb S h r T l v h2:=by
 obtain⟨g,cap,k1,k2,k3,k4⟩:=k
 exact⟨g,cap,k1,k2,Nat.lt_of_lt_of_le k3 o.siz,HP.loc _ k4 (λ_ x=>x) λb hb=>o.same b (hb.elim (λx=>by have:=hS b x;omega) λx=>by subst x;exact k3)⟩
theorem Yz {α:Type}{S:Nat→Prop}{h:Av}{r:AM α}{T:TypeId}{l:List α}:QQ (Vb S h r T l):=λv hh ⟨g,_,k1,_,k3,_⟩=>⟨g,by rw[k1];rfl,k3⟩
theorem MZ {α:Type}{R:AR}{S:Nat→Prop}{h:Av}{r:AM α}{a T:Nat}{l:List α}{is:List Nat}(e:R a=Vb S h r T l) (t:∀i,i∈is→QQ (R i)):∀i,i∈a::is→QQ (R i):=TI (by rw[e];exact Yz) t
theorem LY {α:Type}{S:Nat→Prop}{L:List HP}{h h2:Av}{bs:List Nat}{r:AM α}{g T:Nat}{v:Value}{l:List α}(k:TM S h h2 bs L) (h1:h.size≤g) (h3:g<h2.size) (h4:(OS r T v l).holds S (λb=>b=g) h2) (hn:g∉bs):TM S h h2 (g::bs) (OS r T v l::L):=by
 obtain⟨k1,k2,k3,k4⟩:=k
 refine⟨k1,k2,λc hc=>?_,λc=>c=g,h4,λc hc=>by subst hc;exact .inr (List.mem_cons_self ..),k4.mono λc hc=>⟨hc.imp_right (List.mem_cons_of_mem _),λe=>?_⟩⟩
 ·rcases List.mem_cons.1 hc with rfl|hc
  ·exact⟨h1,h3⟩
  ·exact k3 c hc
 ·subst e
  rcases hc with hc|hc
  ·have:=hc.1;omega
  ·exact hn hc
theorem P3 {α:Type}{P:Program}{ops:Array Oper}{Q:Exit→Act→World→Prop}{n:FN}{m:SM}{rest:List Oper}{d:Nat}{ty:TypeId}{pos:String}{af:Array Edge}{B:World}{S:Nat→Prop}{h0 h:Av}{r:AM α}{T e sz by_:Nat}{z:List Value}{zx:α}{len cap:Int}{kl kc:IntKind}{U V:Operand}(he:M4 P T=some (e,sz,by_,z)) (hrs:r.sz=sz) (hz:r.rd S h z zx)
  (hx:Bf m U=some (.int kl len)) (hy:Bf m V=some (.int kc cap)) (hok:JC len cap by_=true) (hpos:Nat.blt 0 by_=true) (hd:Nat.blt d n.1=true) (o:Ep h0 h) (hS:∀b,S b→b<h0.size)
  (k:∀v h',Ep h h'→Vb S h0 r e (List.replicate len.toNat zx) v h'→Qz h v→LF P ops Q rest B h' n ((d,v)::m)):LF P ops Q (⟨some d,.makeSlice T U V,ty,pos,af,none⟩::rest) B h n m:=by
 simp only[JC,Bool.and_eq_true,decide_eq_true_eq] at hok
 obtain⟨⟨h0',h1'⟩,h2'⟩:=hok
 obtain⟨a,rfl⟩:∃a:Nat,len=a:=⟨len.toNat,by omega⟩
 obtain⟨c,rfl⟩:∃c:Nat,cap=c:=⟨cap.toNat,by omega⟩
 have h3':((by_*c:Nat):Int)≤140737488355328:=by rw[Int.natCast_mul];exact h2'
 have h4':1≤by_:=by simpa [Nat.blt] using hpos
 have h5':c≤by_*c:=Nat.le_mul_of_pos_left _ h4'
 have hlc:a≤c:=by omega
 have hmx:c≤maxLen:=by unfold maxLen;omega
 intro ac w hf hw
 refine wpList_plain rfl λK hK=>?_
 unfold Oper.wp
 obtain⟨i,zv,h1,h2,h3,h4,h5,h6,h7,h8⟩:=J4 he
 have hmk:=run_make (P:=P) w T e i zv h1 h2 h3 kl kc (a:Int) (c:Int) (by omega) (by omega) (by rw[h5];omega) (by unfold maxLen at hmx;omega)
 simp only[Int.toNat_natCast,h6,h4] at hmk
 have hrun:(execOp ac.eval ⟨some d,.makeSlice T U V,ty,pos,af,none⟩).run P w= .ok (.value (.slice (some ⟨w.heap.size,0,none⟩) a c)) (w.alloc (.cells (madeCells z.toArray (c*sz)) e)):=by
  simp [execOp,hf.eval hx,hf.eval hy,hmk]
 rw[hrun]
 have hS':∀b,S b→b<h.size:=λb hb=>Nat.lt_of_lt_of_le (hS b hb) o.siz
 have hcells:(madeCells z.toArray (c*sz)).toList=(List.replicate c z).flatten:=by rw[←h7];exact Kf z c (by omega)
 have hne:(OS r e (.slice (some ⟨h.size,0,none⟩) a c) (List.replicate a zx)).holds S (λb=>b=h.size) (h.push (.cells (madeCells z.toArray (c*sz)) e)):=by
  refine .inr ⟨h.size,c,madeCells z.toArray (c*sz),by simp,λ_=>Iff.rfl,Ke _ _,by simpa using hlc,hmx,by rw[size_madeCells,hrs],?_⟩
  rw[hcells]
  have:((List.replicate c z).flatten).take ((List.replicate a zx).length*r.sz)=(List.replicate a z).flatten:=by
   obtain⟨j,rfl⟩:=Nat.exists_eq_add_of_le hlc
   rw[←List.replicate_append_replicate,List.flatten_append,List.length_replicate,hrs,←h7]
   have:(List.replicate a z).flatten.length=a*z.length:=by simp
   rw[←this,List.take_left]
  rw[this]
  exact(Oc hz a).mono (λ_ x=>x) λb hb=>HX _ _ _ (hS' b hb)
 have hsz:=hw.heap
 have:=k (.slice (some ⟨w.heap.size,0,none⟩) a c) (h.push (.cells (madeCells z.toArray (c*sz)) e)) ⟨by simp,λb hb=>HX _ _ _ hb⟩ (by rw[hsz];exact⟨h.size,c,by simp,o.siz,by simp,by simpa using hne⟩) ⟨h.size,by rw[hsz];rfl,Nat.le_refl _⟩
 exact hK _ _ (this _ _ (hf.put hd _) (hw.alloc _))
def iQ:R9 Int:=λ_ _ vs x=>vs=[.int .i64 x]∧AG x
def Xs {α:Type}(r:AM α):R9 (Int×List α):=λS h vs x=>∃v,vs=[.int .i64 x.1,v]∧AG x.1∧Sl S h r v x.2
theorem iQ.len {S:Nat→Prop}{h:Av}{vs:List Value}{x:Int}(k:iQ S h vs x):vs.length=1:=by rw[k.1];rfl
theorem iQ.mono {S S':Nat→Prop}{h h':Av}{vs:List Value}{x:Int}(k:iQ S h vs x) (_:B9 S h S' h'):iQ S' h' vs x:=k
theorem Xs.len {α:Type}{r:AM α}{S:Nat→Prop}{h:Av}{vs:List Value}{x:Int×List α}(k:Xs r S h vs x):vs.length=2:=by obtain⟨v,e,_⟩:=k;rw[e];rfl
theorem Xs.mono {α:Type}{r:AM α}{S S':Nat→Prop}{h h':Av}{vs:List Value}{x:Int×List α}(k:Xs r S h vs x) (e:B9 S h S' h'):Xs r S' h' vs x:=by obtain⟨v,k1,k2,k3⟩:=k;exact⟨v,k1,k2,k3.mono' e⟩
end Go.Proofs.YtblcgjadhemlbaaGreat
namespace Go.Proofs.YtblcgjadhemlbaaGreat
open Go.RowKit
open Go.ChangeMaps (setBlock)
set_option linter.unusedVariables false
set_option linter.unusedSimpArgs false
section
variable {P:Program}{ops:Array Oper}{Q:Exit→Act→World→Prop}{n:FN}{m:SM}{rest:List Oper}
variable {d:Nat}{ty:TypeId}{pos:String}{af:Array Edge}{X:Operand}{B:World}{h:Av}{S:Nat→Prop}{L:List HP}{t kt et:TypeId}{b r:Nat}
variable {κ β:Type}{kv:κ→Value}{vv:β→Value}{l rem:List (κ×β)}
end
end Go.Proofs.YtblcgjadhemlbaaGreat
namespace Go.Proofs.YtblcgjadhemlbaaGreat
open Go.RowKit
set_option linter.unusedVariables false
set_option linter.unusedSimpArgs false
def X8:List Nat→Nat→List HP→Option (List HP)
 |[],m,L=>some (L.drop m)
 |i::is,m,L=>match L[i]? with
  |some H=>match X8 is m (L.eraseIdx i) with
   |some r=>some (H::r)
   |none=>none
  |none=>none
theorem UO:∀{L:List HP}{i:Nat}{H:HP},L[i]? =some H→M7 L H (L.eraseIdx i)
 |[],i,H,h=>by simp at h
 |K::L,0,H,h=>by
  simp only[List.getElem?_cons_zero,Option.some.injEq] at h
  subst h
  exact .head
 |K::L,i+1,H,h=>by
  simp only[List.getElem?_cons_succ] at h
  exact .tail (UO h)
theorem Sp.dropn {S:Nat→Prop}{h:Av}:∀(m:Nat) {L:List HP}{A:Nat→Prop},Sp S L h A→Sp S (L.drop m) h A
 |0,L,A,k=>k
 |m+1,[],A,k=>k
 |m+1,H::L,A,⟨F,_,_,k⟩=>Sp.dropn m (k.mono λb hb=>hb.1)
theorem Sp.sel {S:Nat→Prop}{h:Av}:∀(is:List Nat) {m:Nat}{L L':List HP}{A:Nat→Prop},X8 is m L=some L'→Sp S L h A→Sp S L' h A
 |[],m,L,L',A,e,k=>by cases e;exact k.dropn m
 |i::is,m,L,L',A,e,k=>by
  simp only[X8] at e
  split at e
  ·rename_i H hH
   split at e
   ·rename_i r hr
    cases e
    obtain⟨F,k1,k2,k3⟩:=Sp.pick (UO hH) k
    exact⟨F,k1,k2,Sp.sel is hr k3⟩
   ·cases e
  ·cases e
theorem St.sel {S:Nat→Prop}{h:Av}{L L':List HP}(hs:St S L h) (is:List Nat) (m:Nat) (e:X8 is m L=some L'):St S L' h:=⟨hs.1,Sp.sel is e hs.2⟩
abbrev IV (B:World) (S:Nat→Prop) (h:Av) (n:FN) (a:Act) (w:World) (m:SM) (L:List HP) (F:(Nat→Prop)→Av→Prop):Prop:=∃(S':Nat→Prop) (h':Av),Fr n a m∧Wd B h' w∧St S' L h'∧B9 S h S' h'∧F S' h'
theorem UQ {vs:List Value}(h:vs.all (·.oneCell')=true):∀u∈vs,u.oneCell'=true:=λu hu=>List.all_eq_true.1 h u hu
section
variable {P:Program}{ops:Array Oper}{Q:Exit→Act→World→Prop}{n:FN}{m:SM}{rest:List Oper}
variable {d:Nat}{ty:TypeId}{pos:String}{af:Array Edge}{X Y:Operand}{B:World}{h:Av}{S:Nat→Prop}{L L2:List HP}{v:Value}
theorem Hz {T T':TypeId}{b o:Nat}{cs vs cs':List Value}{sz:Nat}{ag:Bool}(hx:Bf m X=some (.pointer (some ⟨b,o,none⟩))) (hy:Bf m Y=some v) (hv:v.cells=vs.toArray) (h1:vs.all (·.oneCell')=true)
  (ht:IF P T sz ag=true) (hsz:vs.length=sz) (hs:St S L h) (r:LC L (Bx b T' cs) (Bx b T' cs') L2) (hfit:Nat.ble (o+sz) cs.length=true) (hp:HQ cs o vs=cs')
  (k:∀h',St S L2 h'→B9 S h S h'→LF P ops Q rest B h' n m):LF P ops Q (⟨none,.store T X Y,ty,pos,af,none⟩::rest) B h n m:=HJ hx hy hv (UQ h1) ht hsz hs r hfit hp k
theorem Dh {T T':TypeId}{b:Nat}{cs vs:List Value}{sz:Nat}{ag:Bool}(hx:Bf m X=some (.pointer (some ⟨b,0,none⟩))) (hy:Bf m Y=some v) (hv:v.cells=vs.toArray) (h1:vs.all (·.oneCell')=true)
  (ht:IF P T sz ag=true) (hsz:Nat.beq vs.length sz=true) (hs:St S L h) (r:LC L (Bx b T' cs) (Bx b T' vs) L2) (hl:Nat.beq cs.length sz=true)
  (k:∀h',St S L2 h'→B9 S h S h'→LF P ops Q rest B h' n m):LF P ops Q (⟨none,.store T X Y,ty,pos,af,none⟩::rest) B h n m:=by
 have e1:=Nat.eq_of_beq_eq_true hsz
 have e2:=Nat.eq_of_beq_eq_true hl
 refine HJ hx hy hv (UQ h1) ht e1 hs r (by simp [e2]) ?_ k
 unfold HQ
 rw[List.drop_eq_nil_of_le (by omega)]
 simp
end
section
variable {P:Program}{ops:Array Oper}{C:World→Prop}{Q:Act→Prop}{n:FN}{m:SM}{rest:List Oper}{v:Value}
variable {d:Nat}{ty:TypeId}{pos:String}{af:Array Edge}{X Y:Operand}{h:Av}{S:Nat→Prop}{L:List HP}{t:TypeId}
theorem AS {T b o:Nat}{cs:List Value}(ck:CK C h) (hs:St S L h) (hx:Bf m X=some (.pointer (some ⟨b,o,none⟩))) (hm:Bx b T cs∈L) (hv:cs[o]? =some v) (ht:IF P t 1 false=true) (hd:Nat.blt d n.1=true)
  (k:QF P ops C Q rest n ((d,v)::m)):QF P ops C Q (⟨some d,.load t X,ty,pos,af,none⟩::rest) n m:=by
 have e:(cs.drop o).take 1=[v]:=by
  have hlt:=(List.getElem?_eq_some_iff.1 hv).1
  have hg:=(List.getElem?_eq_some_iff.1 hv).2
  rw[List.drop_eq_getElem_cons hlt,hg]
  simp
 exact DT (vs:=[v]) ck hs hx hm e rfl ht rfl hd k
theorem bZ {o:Oper}{j e:Nat}{b:Bool}{u:Value}(hg:o.guard=some (j,b)) (hj:(ops[j]?).bind (·.dst)=some e) (hb:lk m e=some u) (hu:yb u≠some b) (ho:o.dst=some d) (hd:Nat.blt d n.1=true) (k:QF P ops C Q rest n ((d,undef)::m)):QF P ops C Q (o::rest) n m:=by
 intro a hf
 have hw:Region.wanted o (yielded ops a.tmps)=false:=by
  have:=hf.at_ e _ hb
  cases u<;>simp_all [Region.wanted,yielded,yb]
 unfold wpQuiet
 rw[if_neg (by rw[hw];exact Bool.false_ne_true),ho]
 exact k _ (hf.put hd _)
def eI (op:Op) (m:SM):Option Value:=
 match op with
 | .pick c x y=>match Bf m c with
  |some (.bool true)=>Bf m x
  |some (.bool false)=>Bf m y
  |_=>none
 |_=>none
def TW (ops:Array Oper) (k:Nat):List Oper→SM→Option SM
 |[],m=>some m
 |o::r,m=>match o.guard,o.dst with
  |some (j,b),some d=>match (ops[j]?).bind (·.dst) with
   |some e=>match lk m e with
    |some u=>match yb u,b with
     |some true,true=>match eI o.op m with
      |some v=>cond (Nat.blt d k) (TW ops k r ((d,v)::m)) none
      |none=>none
     |some false,false=>match eI o.op m with
      |some v=>cond (Nat.blt d k) (TW ops k r ((d,v)::m)) none
      |none=>none
     |_,_=>cond (Nat.blt d k) (TW ops k r ((d,undef)::m)) none
    |none=>none
   |none=>none
  |none,some d=>match eI o.op m with
   |some v=>cond (Nat.blt d k) (TW ops k r ((d,v)::m)) none
   |none=>none
  |_,none=>none
theorem Mt {α:Type}{c:Bool}{x:Option α}{y:α}(h:cond c x none=some y):c=true∧x=some y:=by cases c<;>simp_all
theorem T4 {u:Value}{b:Bool}(h:yb u=some b):u= .bool b:=by
 cases u<;>simp_all [yb]
theorem Tt {o:Oper}{d:Nat}{v:Value}(hg:o.guard=none) (hd:o.dst=some d) (hv:eI o.op m=some v) (hb:Nat.blt d n.1=true) (k:QF P ops C Q rest n ((d,v)::m)):QF P ops C Q (o::rest) n m:=by
 obtain⟨od,oo,ot,op_,oa,og⟩:=o
 simp only at hg hd hv
 subst hg hd
 unfold eI at hv
 split at hv
 ·split at hv
  ·rename_i hc;exact R0 hc hv hb k
  ·rename_i hc;exact R0 hc hv hb k
  ·cases hv
 ·cases hv
theorem N0:∀{l:List Oper}{m m':SM},TW ops n.1 l m=some m'→QF P ops C Q [] n m'→QF P ops C Q l n m
 |[],m,m',h,k=>by cases h;exact k
 |o::r,m,m',h,k=>by
  simp only[TW] at h
  split at h
  ·rename_i j b d hg hd
   split at h
   ·rename_i e he
    split at h
    ·rename_i u hu
     split at h
     ·rename_i hy
      split at h
      ·rename_i v hv
       obtain⟨c1,c2⟩:=Mt h
       have:=T4 hy
       subst this
       exact Xl hg he hu (Tt rfl hd hv c1 (N0 c2 k))
      ·cases h
     ·rename_i hy
      split at h
      ·rename_i v hv
       obtain⟨c1,c2⟩:=Mt h
       have:=T4 hy
       subst this
       exact Xl hg he hu (Tt rfl hd hv c1 (N0 c2 k))
      ·cases h
     ·rename_i n1 n2
      obtain⟨c1,c2⟩:=Mt h
      refine bZ hg he hu (λe0=>?_) hd c1 (N0 c2 k)
      generalize hzz:yb u=zz at*
      subst e0
      revert n1 n2
      intro n1 n2
      exact Bool.rec (motive:=λq=>(some q=some true→q=true→False)→(some q=some false→q=false→False)→False) (λ_ h=>h rfl rfl) (λh _=>h rfl rfl) _ n1 n2
    ·cases h
   ·cases h
  ·rename_i d hg hd
   split at h
   ·rename_i v hv
    obtain⟨c1,c2⟩:=Mt h
    exact Tt hg hd hv c1 (N0 c2 k)
   ·cases h
  ·cases h
theorem AU {m':SM}(hs:eL (m'.map (·.1)) m=some m'):QF P ops C (λa=>Fr n a m') [] n m:=Yv (kp _ hs)
theorem Aa {l:List Oper}{m2 m':SM}(h:TW ops n.1 l m=some m2) (hs:eL (m'.map (·.1)) m2=some m'):QF P ops C (λa=>Fr n a m') l n m:=N0 h (AU hs)
end
section
variable {P:Program}{ops:Array Oper}{Q:Act→Prop}{n:FN}{m:SM}{rest:List Oper}{d:Nat}{ty:TypeId}{pos:String}{af:Array Edge}{X:Operand}{v:Value}{Ψ:Prop}{f:Nat}{xs:Array Operand}{tys:Array TypeId}{args vs:List Value}{first cap:Array Value}{h:Av}{B:World}{Z:(Nat→Prop)→Av→Prop}
theorem Az (hX:Bf m X=some (.func (.func f) first cap)) (hxs:xs.toList.mapM (Bf m)=some args) (hvs:first.toList++args++cap.toList=vs) (hcb:BQ P f=true) (hd:Nat.blt d n.1=true)
  (hc:∀h',Ep h h'→CG P f vs.toArray (λb=>b<h'.size) h' (λu S' h2=>u=v∧Z S' h2))
  (k:QF P ops (Cl B h) Q rest n ((d,v)::m)):QF P ops (Cl B h) Q (⟨some d,.call ⟨.value X,xs,tys⟩,ty,pos,af,none⟩::rest) n m:=
 H8 (Ψ:=True) hX hxs hvs hcb hd (λh' o=>(hc h' o).mono λ_ _ _ _ p=>⟨p.1,trivial⟩) λ_=>k
theorem CE (hX:Bf m X=some (.func (.func f) first cap)) (hxs:xs.toList.mapM (Bf m)=some args) (hvs:first.toList++args++cap.toList=vs) (hcb:BQ P f=true) (hd:Nat.blt d n.1=true)
  (hc:∀h',Ep h h'→CG P f vs.toArray (λb=>b<h'.size) h' (λu S' h2=>u=v∧Ψ∧Z S' h2))
  (k:Ψ→QF P ops (Cl B h) Q rest n ((d,v)::m)):QF P ops (Cl B h) Q (⟨some d,.call ⟨.value X,xs,tys⟩,ty,pos,af,none⟩::rest) n m:=
 H8 hX hxs hvs hcb hd (λh' o=>(hc h' o).mono λ_ _ _ _ p=>⟨p.1,p.2.1⟩) k
end
theorem iq {n:Int}(h:(decide (-9223372036854775808≤n)&&decide (n≤9223372036854775807))=true):AG n:=by
 simp only[Bool.and_eq_true,decide_eq_true_eq] at h
 exact h
theorem JW {n:Nat}(h:n≤maxLen):AG (n:Int):=by unfold maxLen at h;unfold AG;omega
section
variable {P:Program}{fn:Func}{B:World}{S S':Nat→Prop}{h h':Av}{post:Value→(Nat→Prop)→Av→Prop}{a:Act}{m:SM}{w:World}
theorem Dm {k t:Nat}{v:Value}(hf:Fr (k,[]) a m) (hw:Wd B h' w) (hr:fn.results= #[.tmp t]) (hv:lk m t=some v) (e:B9 S h S' h') (kp:post v S' h'):Rt P fn B S h post a w:=rt1 hf hr hv hw e kp
end
end Go.Proofs.YtblcgjadhemlbaaGreat
