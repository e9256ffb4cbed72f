import Derived.Test.YtblcgjadhemlbaaGreatUCore27
namespace Go.Proofs.YtblcgjadhemlbaaGreat
open Go.RowKit
set_option linter.unusedVariables false
set_option linter.unusedSimpArgs false
section
variable {α:Type}{r:AM α}{e T:TypeId}{v u:Value}{l:List α}{vs:List Value}{ll:List (List α)}{S F:Nat→Prop}{h:Av}{L L2:List HP}
theorem St.one {H:HP}(hs:St S L h) (hm:H∈L):St S [H] h:=by
 obtain⟨F,k,k2⟩:=hs.get hm
 exact⟨hs.1,F,k,k2,trivial⟩
theorem St.oolen (hs:St S L h) (hm:OO r e T v ll∈L):∃ad cap,v= .slice ad ll.length cap∧ll.length≤maxLen:=by
 obtain⟨vs,hl,k⟩:=(hs.one hm).ooOpen
 have:=k.oslen (List.mem_cons_self ..)
 rwa [hl] at this
def IN (h:Av) (q u:Value):Prop:=∃a:Addr,q= .pointer (some a)∧H5 h a=some u
def kZ (u:Value) (k:Nat) (q:Value):Prop:=∃a n c,u= .slice (some a) n c∧q= .pointer (some (a.add k))
theorem WS {S:Nat→Prop}{i:Nat}(k:OS Gu T v vs |>.holds S F h) (hi:vs[i]? =some u) {q:Value}(ep:EP v i q):IN h q u:=by
 obtain⟨g,n,c,e1,rfl⟩:=ep
 rcases k with ⟨⟨ad,k1⟩,k2,_⟩|⟨g',cap,cur,k1,k2,k3,k4,k5,k6,k7⟩
 ·subst k2;simp at hi
 ·rw[e1] at k1
  injection k1 with e2 _ _
  injection e2 with e2
  injection e2 with e2 _ _
  subst e2
  have e7:=RJ k7
  have hlt:i<vs.length:=(List.getElem?_eq_some_iff.1 hi).1
  refine⟨_,rfl,?_⟩
  simp only[H5,k3,Option.isSome_none,Bool.false_eq_true,if_false]
  have h1:(cur.toList.take (vs.length*Gu.sz))[i]? =some u:=by rw[e7];exact hi
  rw[List.getElem?_take_of_lt (by show i<vs.length*1;omega)] at h1
  simpa using h1
theorem St.ooAt (hs:St S L h) (hm:OO r e T v ll∈L) {i:Nat}(hi:ll[i]? =some l) {q:Value}(ep:EP v i q):
  ∃u,IN h q u∧Sl (λb=>b<h.size) h r u l∧Cells (λb=>b<h.size) h q [u]:=by
 obtain⟨vs,hl,k⟩:=(hs.one hm).ooOpen
 have hlt:i<vs.length:=by rw[hl];exact(List.getElem?_eq_some_iff.1 hi).1
 have hu:vs[i]? =some vs[i]:=by simp [hlt]
 obtain⟨F,k1,k1'⟩:=k.get (List.mem_cons_self ..)
 have hin:=WS k1 hu ep
 obtain⟨M,t1,_⟩:=OK (r:=r) (e:=e) hu hi
 have k2:St S (O1 (SA r e vs ll)::[OS Gu T v vs]) h:=k.sel [1,0] 0 rfl
 have k3:=t1 k2
 refine⟨vs[i],hin,k3.oslAll (List.mem_cons_self ..),?_⟩
 obtain⟨g,n,c,e1,rfl⟩:=ep
 obtain⟨a,e2,e3⟩:=hin
 injection e2 with e2
 injection e2 with e2
 subst e2
 rcases k1 with ⟨⟨ad,q1⟩,q2,_⟩|⟨g',cap,cur,q1,q2,_⟩
 ·rw[q2] at hlt;exact absurd hlt (Nat.not_lt_zero _)
 ·rw[e1] at q1
  injection q1 with e4 _ _
  injection e4 with e4
  injection e4 with e4 _ _
  subst e4
  refine⟨⟨g,i,none⟩,rfl,rfl,(k1' g ((q2 g).2 rfl)).1,λj hj=>?_⟩
  simp only[List.length_singleton] at hj
  have:j=0:=by omega
  subst this
  exact e3
theorem OW.oslen {S X F:Nat→Prop}{h0 h:Av}{M:List HP}(k:OW S h0 X F M h) (hm:OS r T v l∈M):∃ad cap,v= .slice ad l.length cap∧l.length≤maxLen:=by
 obtain⟨F,k,_⟩:=Sp.get hm k
 exact OS.len k
theorem OW.oolen {S X F:Nat→Prop}{h0 h:Av}{M:List HP}(k:OW S h0 X F M h) (hm:OO r e T v ll∈M):∃ad cap,v= .slice ad ll.length cap∧ll.length≤maxLen:=by
 obtain⟨F,⟨vs,hl,F',k,_⟩,_⟩:=Sp.get hm k
 rw[←hl]
 exact OS.len k
theorem Mc {β:Type}:∀{l:List β}{i:Nat}{x:β},l[i]? =some x→l.set i x=l
 |[],_,_,h=>by simp at h
 |y::l,0,x,h=>by simp at h;rw[h];rfl
 |y::l,i+1,x,h=>by
  simp only[List.getElem?_cons_succ] at h
  rw[List.set_cons_succ,Mc h]
end
section
variable {P:Program}{ops:Array Oper}{C:World→Prop}{Q:Act→Prop}{Q2:Exit→Act→World→Prop}{n:FN}{m m':SM}{rest:List Oper}
variable {d:Nat}{ty:TypeId}{pos:String}{af:Array Edge}{X Y:Operand}{t:TypeId}{v p:Value}{B:World}{h:Av}{S:Nat→Prop}{L L2:List HP}
theorem N2 {α}{r:AM α}{ll:List (List α)}{e0 T e:Nat}{i:Int}{x:List α}(hs:St S L h) (hm:OO r e0 T v ll∈L) (hx:Bf m X=some v) (hy:Bf m Y=some (.int .i64 i)) (ht:KM P t e 1=true) (hi:Go.Proofs.YtblcgjadhemlbaaGreat.ix ll i=some x) (hd:Nat.blt d n.1=true)
  (k:∀q,EP v (i.toNat*(AM.sl r).sz+0) q→QF P ops C Q rest n ((d,q)::m)):QF P ops C Q (⟨some d,.indexAddr t X Y,ty,pos,af,none⟩::rest) n m:=by
 obtain⟨vs,hl,ks⟩:=(hs.one hm).ooOpen
 obtain⟨h0,h1⟩:=Fq hi
 have hlt:i.toNat<vs.length:=by rw[hl];exact(List.getElem?_eq_some_iff.1 h1).1
 have hi':Go.Proofs.YtblcgjadhemlbaaGreat.ix vs i=some vs[i.toNat]:=by unfold Go.Proofs.YtblcgjadhemlbaaGreat.ix;rw[if_neg (by omega)];simp [hlt]
 exact A4 (r:=Gu) ks (List.mem_cons_self ..) hx hy ht hi' hd k
theorem Xk {α}{r:AM α}{ll:List (List α)}{e0 T aty e sz}(hs:St S L h) (hm:OO r e0 T v ll∈L) (hx:Bf m X=some v) (ht:KM P t e sz=true) (hd:Nat.blt d n.1=true)
  (k:ll.length≤maxLen→QF P ops C Q rest n ((d,.int .i64 ll.length)::m)):QF P ops C Q (⟨some d,.call ⟨.builtin .len,#[X],#[t]⟩,aty,pos,af,none⟩::rest) n m:=by
 obtain⟨ad,cap,rfl,hmx⟩:=hs.oolen hm
 exact Mw hx ht hd (k hmx)
theorem R4 {α}{r:AM α}{ll:List (List α)}{e0 T:Nat}{i:Int}{l:List α}{q:Value}(ck:CK C h) (hs:St S L h) (hm:OO r e0 T v ll∈L) (hx:Bf m X=some q) (hi:Go.Proofs.YtblcgjadhemlbaaGreat.ix ll i=some l) (ep:EP v (i.toNat*(AM.sl r).sz+0) q) (ht:IF P t 1 false=true) (hd:Nat.blt d n.1=true)
  (k:∀u,IN h q u→Sl (λb=>b<h.size) h r u l→QF P ops C Q rest n ((d,u)::m)):QF P ops C Q (⟨some d,.load t X,ty,pos,af,none⟩::rest) n m:=by
 have ep':EP v i.toNat q:=by have:=ep;rwa [show i.toNat*(AM.sl r).sz+0=i.toNat from Nat.mul_one _] at this
 obtain⟨u,k1,k2,k3⟩:=hs.ooAt hm (Fq hi).2 ep'
 obtain⟨ad,cap,hu⟩:∃ad cap,u= .slice ad l.length cap:=by
  rcases k2 with ⟨e1,e2⟩|⟨a,cap,e1,_⟩
  ·exact⟨none,0,by rw[e1,e2];rfl⟩
  ·exact⟨_,cap,e1⟩
 have k4:N5 (λb=>b<h.size) S h Gu q u:=⟨[u],k3,rfl,by rw[hu];rfl⟩
 refine B4 (r:=Gu) ck (λb hb=>hb) hx k4 ht (λ_=>rfl) hd λv' hv=>?_
 obtain⟨cs,e1,e2,e3⟩:=hv
 subst e2
 have:v'=u:=e1
 subst this
 exact k _ k1 k2
theorem Uv {α}{r:AM α}{l:List α}{A:Nat→Prop}{u:Value}{e:Nat}{i:Int}{x:α}(hx:Bf m X=some u) (hy:Bf m Y=some (.int .i64 i)) (k0:Sl A h r u l) (ht:KM P t e r.sz=true) (hi:Go.Proofs.YtblcgjadhemlbaaGreat.ix l i=some x) (hd:Nat.blt d n.1=true)
  (k:∀q,Pt A h r q x→kZ u (i.toNat*r.sz) q→QF P ops C Q rest n ((d,q)::m)):QF P ops C Q (⟨some d,.indexAddr t X Y,ty,pos,af,none⟩::rest) n m:=by
 obtain⟨h0,h1⟩:=Fq hi
 have hlt:i.toNat<l.length:=(List.getElem?_eq_some_iff.1 h1).1
 rcases k0 with ⟨_,e2⟩|⟨a,cap,e1,e3,e4,e5⟩
 ·subst e2;simp at hlt
 ·subst e1
  obtain⟨hsp,hpt⟩:=e5 _ _ h1
  have hadd:a.add (i.toNat*r.sz)=⟨a.block,a.off+i.toNat*r.sz,none⟩:=by
   obtain⟨b,o,sp⟩:=a
   simp only at hsp
   subst hsp
   unfold Addr.add
   split<;>simp_all
  intro a' hf
  refine FT hf hd (λw _=>by simp [execOp,hf.eval hx,hf.eval hy,Kw (P:=P) (w:=w) (cap:=cap) (a:=a) ht h0 hlt]) (k _ (by rw[hadd];exact hpt) ⟨a,_,_,rfl,rfl⟩)
theorem U0 {α}{r:AM α}{ll:List (List α)}{e0 T:Nat}{i:Int}{l l':List α}{q u:Value}(hx:Bf m X=some q) (hy:Bf m Y=some u) (ep:EP v (i.toNat*(AM.sl r).sz+0) q) (hi:ix ll i=some l) (ht:IF P t 1 false=true)
  (hs:St S (OS r e0 u l'::OO r e0 T v ll::L) h) (k:∀h',St S (OO r e0 T v (upd ll i l')::L) h'→B9 S h S h'→LF P ops Q2 rest B h' n m):LF P ops Q2 (⟨none,.store t X Y,ty,pos,af,none⟩::rest) B h n m:=by
 obtain⟨h0,h1⟩:=Fq hi
 have hs1:St S (OO r e0 T v ll::OS r e0 u l'::L) h:=hs.pick (.tail .head)
 obtain⟨vs,hl,ks⟩:=hs1.ooOpen
 have hlt:i.toNat<vs.length:=by rw[hl];exact(List.getElem?_eq_some_iff.1 h1).1
 have hi':ix vs i=some vs[i.toNat]:=by unfold ix;rw[if_neg (by omega)];simp [hlt]
 have hu:vs[i.toNat]? =some vs[i.toNat]:=by simp [hlt]
 obtain⟨ad,cap,hue,_⟩:=hs.oslen (List.mem_cons_self ..)
 have hone:u.oneCell'=true:=by rw[hue];rfl
 obtain⟨M,t1,t2⟩:=OK (r:=r) (e:=e0) hu h1
 refine En (r:=Gu) (r':=Gu) (i:=i) (x:=vs[i.toNat]) (g:=λ_ y=>y) (off:=0) (y:=u) hx hy ⟨[u],rfl,rfl,hone⟩ ep hi' Lq.id ht (λ_=>rfl) ks .head λh' hs' e'=>k h' ?_ e'
 have hs2:St S (O1 (SA r e0 vs ll)::OS Gu T v (upd vs i u)::OS r e0 u l'::L) h':=hs'.pick (.tail .head)
 have hs3:=t1 hs2
 have hs4:St S (OS r e0 u l'::O1 M::OS Gu T v (upd vs i u)::L) h':=by
  have:=hs3.drop .head
  exact(this.pick (.tail (.tail .head)))
 have hs5:=t2 u l' hs4
 have hs6:St S (OS Gu T v (upd vs i u)::O1 (SA r e0 (vs.set i.toNat u) (ll.set i.toNat l'))::L) h':=hs5.pick (.tail .head)
 exact NO (by simp [upd,hl]) hs6
theorem Y0 {α}{r:AM α}{ll:List (List α)}{e0 T:Nat}{i j:Int}{l:List α}{x y:α}{q q2 u w0:Value}(hx:Bf m X=some q2) (hy:Bf m Y=some w0) (hw0:Rd S h r w0 y) (ep:EP v (i.toNat*(AM.sl r).sz+0) q) (hin:IN h q u) (eps:kZ u (j.toNat*r.sz) q2)
  (hi:ix ll i=some l) (hj:ix l j=some x) (ht:IF P t r.sz r.ag=true) (h1:r.ag=false→r.sz=1)
  (hs:St S (OO r e0 T v ll::L) h) (k:∀h',St S (OO r e0 T v (upd ll i (upd l j y))::L) h'→B9 S h S h'→LF P ops Q2 rest B h' n m):LF P ops Q2 (⟨none,.store t X Y,ty,pos,af,none⟩::rest) B h n m:=by
 obtain⟨h0,hi1⟩:=Fq hi
 obtain⟨vs,hl,ks⟩:=hs.ooOpen
 have hlt:i.toNat<vs.length:=by rw[hl];exact(List.getElem?_eq_some_iff.1 hi1).1
 have hu:vs[i.toNat]? =some vs[i.toNat]:=by simp [hlt]
 have ep':EP v i.toNat q:=by have:=ep;rwa [show i.toNat*(AM.sl r).sz+0=i.toNat from Nat.mul_one _] at this
 obtain⟨F,k1,k1'⟩:=ks.get (List.mem_cons_self ..)
 have he:vs[i.toNat]=u:=by
  obtain⟨a,a1,a2⟩:=WS k1 hu ep'
  obtain⟨a',b1,b2⟩:=hin
  rw[a1] at b1
  injection b1 with b1
  injection b1 with b1
  subst b1
  rw[a2] at b2
  exact Option.some.inj b2
 obtain⟨M,t1,t2⟩:=OK (r:=r) (e:=e0) hu hi1
 have hs2:St S (O1 (SA r e0 vs ll)::OS Gu T v vs::L) h:=ks.pick (.tail .head)
 have hs3:=t1 hs2
 rw[he] at hs3
 have ep2:EP u (j.toNat*r.sz+0) q2:=by
  obtain⟨F3,z1,_⟩:=hs3.get (List.mem_cons_self ..)
  obtain⟨a,nn,c,e1,e2⟩:=eps
  rcases z1 with ⟨⟨ad,z1⟩,z2,_⟩|⟨g,cap,cur,z1,_⟩
  ·subst z2;unfold ix at hj;split at hj<;>simp at hj
  ·rw[e1] at z1
   injection z1 with z3 _ _
   injection z3 with z3
   subst z3
   refine⟨g,nn,c,e1,?_⟩
   rw[e2,TJ,Nat.zero_add]
   rfl
 refine En (r:=r) (r':=r) (i:=j) (x:=x) (g:=λ_ y=>y) (off:=0) (y:=y) hx hy hw0 ep2 hj Lq.id ht h1 hs3 .head λh' hs' e'=>k h' ?_ e'
 have hs5:=t2 u (upd l j y) hs'
 have hs6:St S (OS Gu T v vs::O1 (SA r e0 (vs.set i.toNat u) (ll.set i.toNat (upd l j y)))::L) h':=hs5.pick (.tail .head)
 rw[Mc (he▸hu)] at hs6
 exact NO (by simp [upd,hl]) hs6
theorem Y1 {α}(r:AM α) (e0:Nat) {T e by_:Nat}{len cap:Int}{kl kc:IntKind}{U V:Operand}(he:M4 P T=some (e,1,by_,[.slice none 0 0]))
  (hx:Bf m U=some (.int kl len)) (hy:Bf m V=some (.int kc cap)) (hok:JC len cap by_=true) (hpos:Nat.blt 0 by_=true) (hd:Nat.blt d n.1=true) (hs:St S L h)
  (k:∀v h',St S (OO r e0 e v (List.replicate len.toNat ([]:List α))::L) h'→B9 S h S h'→LF P ops Q2 rest B h' n ((d,v)::m)):LF P ops Q2 (⟨some d,.makeSlice T U V,ty,pos,af,none⟩::rest) B h n m:=
 I9 (r:=Gu) (zx:= .slice none 0 0) he rfl ⟨rfl,rfl⟩ hx hy hok hpos hd hs λv h' hs' e'=>k v h' hs'.ooNil e'
end
end Go.Proofs.YtblcgjadhemlbaaGreat
