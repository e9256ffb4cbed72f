import Derived.Test.YtblcgjadhemlbaaGreatVCore27
namespace Go.Proofs.YtblcgjadhemlbaaGreat
set_option linter.all false
open Go.RowKit
section
variable {α:Type}{r:BW α}{e T:TypeId}{v u:Value}{l:List α}{vs:List Value}{ll:List (List α)}{S F:Nat→Prop}{h:BL}{L L2:List HP}
def St.one {H:HP}(a:St S L h) (b:H∈L):St S [H] h:=by
 obtain⟨F,k,c⟩:=a.get b
 exact⟨a.1,F,k,c,trivial⟩
def St.oolen (a:St S L h) (b:OO r e T v ll∈L):∃c cap,v= .slice c ll.length cap∧ll.length≤maxLen:=by
 obtain⟨vs,d,k⟩:=(a.one b).ooOpen
 have:=k.oslen (oB ..)
 rwa [d] at this
def IN (h:BL) (q u:Value):Prop:=∃a:Addr,q= .pointer (some a)∧Ip h a=some u
def mT (u:Value) (k:Nat) (q:Value):Prop:=∃a n c,u= .slice (some a) n c∧q= .pointer (some (a.add k))
def XE {S:Nat→Prop}{i:Nat}(k:OS Ho T v vs |>.holds S F h) (b:vs[i]? =some u) {q:Value}(l:EP v i q):IN h q u:=by
 obtain⟨g,n,c,m,rfl⟩:=l
 rcases k with ⟨⟨s,d⟩,k2,_⟩|⟨g',cap,cur,d,k2,k3,k4,k5,k6,k7⟩
 ·subst k2;simp at b
 ·rw[m] at d
  injection d with a _ _
  injection a with a
  injection a with a _ _
  subst a
  have o:=Rx k7
  have p:i<vs.length:=(nK.1 b).1
  refine⟨_,rfl,?_⟩
  simp only[Ip,k3,rG,qB,if_false]
  have j:(cur.toList.take (vs.length*Ho.sz))[i]? =some u:=by rw[o];exact b
  rw[pA (by show i<vs.length*1;omega)] at j
  simpa using j
def St.ooAt (A:St S L h) (B:OO r e T v ll∈L) {i:Nat}(w:ll[i]? =some l) {q:Value}(x:EP v i q):
  ∃u,IN h q u∧Sl (λb=>b<h.size) h r u l∧Qi (λb=>b<h.size) h q [u]:=by
 obtain⟨vs,C,k⟩:=(A.one B).ooOpen
 have d:i<vs.length:=by rw[C];exact(nK.1 w).1
 have y:vs[i]? =some vs[i]:=by simp [d]
 obtain⟨F,z,s⟩:=k.get (oB ..)
 have m:=XE z y x
 obtain⟨M,D,_⟩:=Oy (r:=r) (e:=e) y w
 have G:St S (PU (Ss r e vs ll)::[OS Ho T v vs]) h:=k.sel [1,0] 0 rfl
 have H:=D G
 refine⟨vs[i],m,H.oslAll (oB ..),?_⟩
 obtain⟨g,n,c,I,rfl⟩:=x
 obtain⟨a,o,J⟩:=m
 injection o with o
 injection o with o
 subst o
 rcases z with ⟨⟨Q,t⟩,q2,_⟩|⟨g',cap,cur,t,q2,_⟩
 ·rw[q2] at d;exact absurd d (Nat.not_lt_zero _)
 ·rw[I] at t
  injection t with p _ _
  injection p with p
  injection p with p _ _
  subst p
  refine⟨⟨g,i,none⟩,rfl,rfl,(s g ((q2 g).2 rfl)).1,λj K=>?_⟩
  simp only[List.length_singleton] at K
  have:j=0:=by omega
  subst this
  exact J
def OW.oslen {S X F:Nat→Prop}{h0 h:BL}{M:List HP}(k:OW S h0 X F M h) (a:OS r T v l∈M):∃b cap,v= .slice b l.length cap∧l.length≤maxLen:=by
 obtain⟨F,k,_⟩:=Sp.get a k
 exact OS.len k
def OW.oolen {S X F:Nat→Prop}{h0 h:BL}{M:List HP}(k:OW S h0 X F M h) (a:OO r e T v ll∈M):∃b cap,v= .slice b ll.length cap∧ll.length≤maxLen:=by
 obtain⟨F,⟨vs,c,d,k,_⟩,_⟩:=Sp.get a k
 rw[←c]
 exact OS.len k
def NB {a:Type}:∀{l:List a}{i:Nat}{x:a},l[i]? =some x→l.set i x=l
 |[],_,_,h=>by simp at h
 |y::l,0,x,h=>by simp at h;rw[h];rfl
 |y::l,i+1,x,h=>by
  simp only[pP] at h
  rw[List.set_cons_succ,NB h]
end
section
variable {P:Program}{ops:Array Oper}{C:World→Prop}{Q:Act→Prop}{Q2:Exit→Act→World→Prop}{n:FN}{m m':SM}{rest:List Oper}
variable {d:Nat}{ty:TypeId}{pos:String}{af:Array Edge}{X Y:Operand}{t:TypeId}{v p:Value}{B:World}{h:BL}{S:Nat→Prop}{L L2:List HP}
def Oc {α}{r:BW α}{ll:List (List α)}{c T e:Nat}{i:Int}{x:List α}(g:St S L h) (j:OO r c T v ll∈L) (l:CQ m X=some v) (o:CQ m Y=some (.int .i64 i)) (p:K2 P t e 1=true) (s:Go.Proofs.YtblcgjadhemlbaaGreat.ix ll i=some x) (hd:Nat.blt d n.1=true)
  (k:∀q,EP v (i.toNat*(BW.sl r).sz+0) q→QF P ops C Q rest n ((d,q)::m)):QF P ops C Q (⟨some d,.indexAddr t X Y,ty,pos,af,none⟩::rest) n m:=by
 obtain⟨vs,u,w⟩:=(g.one j).ooOpen
 obtain⟨h0,y⟩:=Eu s
 have a:i.toNat<vs.length:=by rw[u];exact(nK.1 y).1
 have b:Go.Proofs.YtblcgjadhemlbaaGreat.ix vs i=some vs[i.toNat]:=by unfold Go.Proofs.YtblcgjadhemlbaaGreat.ix;rw[nB (by omega)];simp [a]
 exact BU (r:=Ho) w (oB ..) l o p b hd k
def Ya {α}{r:BW α}{ll:List (List α)}{e0 T aty e sz}(b:St S L h) (c:OO r e0 T v ll∈L) (g:CQ m X=some v) (i:K2 P t e sz=true) (hd:Nat.blt d n.1=true)
  (k:ll.length≤maxLen→QF P ops C Q rest n ((d,.int .i64 ll.length)::m)):QF P ops C Q (⟨some d,.call ⟨.builtin .len,#[X],#[t]⟩,aty,pos,af,none⟩::rest) n m:=by
 obtain⟨j,cap,rfl,a⟩:=b.oolen c
 exact NS g i hd (k a)
def Sj {α}{r:BW α}{ll:List (List α)}{s T:Nat}{i:Int}{l:List α}{q:Value}(w:CK C h) (x:St S L h) (y:OO r s T v ll∈L) (z:CQ m X=some q) (A:Go.Proofs.YtblcgjadhemlbaaGreat.ix ll i=some l) (B:EP v (i.toNat*(BW.sl r).sz+0) q) (D:Iz P t 1 false=true) (hd:Nat.blt d n.1=true)
  (k:∀u,IN h q u→Sl (λb=>b<h.size) h r u l→QF P ops C Q rest n ((d,u)::m)):QF P ops C Q (⟨some d,.load t X,ty,pos,af,none⟩::rest) n m:=by
 have g:EP v i.toNat q:=by have:=B;rwa [show i.toNat*(BW.sl r).sz+0=i.toNat from qJ _] at this
 obtain⟨u,F,o,G⟩:=x.ooAt y (Eu A).2 g
 obtain⟨p,cap,H⟩:∃p cap,u= .slice p l.length cap:=by
  rcases o with ⟨c,j⟩|⟨a,cap,c,_⟩
  ·exact⟨none,0,by rw[c,j];rfl⟩
  ·exact⟨_,cap,c⟩
 have I:N3 (λb=>b<h.size) S h Ho q u:=⟨[u],G,rfl,by rw[H];rfl⟩
 refine Ci (r:=Ho) w (λb J=>J) z I D (λ_=>rfl) hd λK M=>?_
 obtain⟨cs,c,j,U⟩:=M
 subst j
 have:K=u:=c
 subst this
 exact k _ F o
def Vg {α}{r:BW α}{l:List α}{A:Nat→Prop}{u:Value}{e:Nat}{i:Int}{x:α}(y:CQ m X=some u) (z:CQ m Y=some (.int .i64 i)) (k0:Sl A h r u l) (B:K2 P t e r.sz=true) (D:Go.Proofs.YtblcgjadhemlbaaGreat.ix l i=some x) (hd:Nat.blt d n.1=true)
  (k:∀q,Pt A h r q x→mT u (i.toNat*r.sz) q→QF P ops C Q rest n ((d,q)::m)):QF P ops C Q (⟨some d,.indexAddr t X Y,ty,pos,af,none⟩::rest) n m:=by
 obtain⟨h0,v⟩:=Eu D
 have c:i.toNat<l.length:=(nK.1 v).1
 rcases k0 with ⟨_,F⟩|⟨a,cap,e1,e3,e4,e5⟩
 ·subst F;simp at c
 ·subst e1
  obtain⟨g,p⟩:=e5 _ _ v
  have j:a.add (i.toNat*r.sz)=⟨a.block,a.off+i.toNat*r.sz,none⟩:=by
   obtain⟨b,o,G⟩:=a
   simp only at g
   subst g
   unfold Addr.add
   split<;>simp_all
  intro H s
  refine GP s hd (λw _=>by simp [execOp,s.eval y,s.eval z,LW (P:=P) (w:=w) (cap:=cap) (a:=a) B h0 c]) (k _ (by rw[j];exact p) ⟨a,_,_,rfl,rfl⟩)
def Vm {α}{r:BW α}{ll:List (List α)}{a T:Nat}{i:Int}{l b:List α}{q u:Value}(I:CQ m X=some q) (J:CQ m Y=some u) (K:EP v (i.toNat*(BW.sl r).sz+0) q) (Q:ix ll i=some l) (U:Iz P t 1 false=true)
  (F:St S (OS r a u b::OO r a T v ll::L) h) (k:∀h',St S (OO r a T v (upd ll i b)::L) h'→Cv S h S h'→LF P ops Q2 rest B h' n m):LF P ops Q2 (⟨none,.store t X Y,ty,pos,af,none⟩::rest) B h n m:=by
 obtain⟨h0,G⟩:=Eu Q
 have j:St S (OO r a T v ll::OS r a u b::L) h:=F.pick (.tail .head)
 obtain⟨vs,H,V⟩:=j.ooOpen
 have c:i.toNat<vs.length:=by rw[H];exact(nK.1 G).1
 have o:ix vs i=some vs[i.toNat]:=by unfold ix;rw[nB (by omega)];simp [c]
 have W:vs[i.toNat]? =some vs[i.toNat]:=by simp [c]
 obtain⟨ad,cap,p,_⟩:=F.oslen (oB ..)
 have d:u.oneCell'=true:=by rw[p];rfl
 obtain⟨M,Z,t2⟩:=Oy (r:=r) (e:=a) W G
 refine Fm (r:=Ho) (r':=Ho) (i:=i) (x:=vs[i.toNat]) (g:=λ_ y=>y) (off:=0) (y:=u) I J ⟨[u],rfl,rfl,d⟩ K o ML.id U (λ_=>rfl) V .head λh' s e'=>k h' ?_ e'
 have w:St S (PU (Ss r a vs ll)::OS Ho T v (upd vs i u)::OS r a u b::L) h':=s.pick (.tail .head)
 have z:=Z w
 have A:St S (OS r a u b::PU M::OS Ho T v (upd vs i u)::L) h':=by
  have:=z.drop .head
  exact(this.pick (.tail (.tail .head)))
 have C:=t2 u b A
 have D:St S (OS Ho T v (upd vs i u)::PU (Ss r a (vs.set i.toNat u) (ll.set i.toNat b))::L) h':=C.pick (.tail .head)
 exact Nx (by simp [upd,H]) D
def Zn {α}{r:BW α}{ll:List (List α)}{o T:Nat}{i j:Int}{l:List α}{x y:α}{q A u Z:Value}(hx:CQ m X=some A) (hy:CQ m Y=some Z) (C:Rd S h r Z y) (ep:EP v (i.toNat*(BW.sl r).sz+0) q) (D:IN h q u) (G:mT u (j.toNat*r.sz) A)
  (hi:ix ll i=some l) (z:ix l j=some x) (ht:Iz P t r.sz r.ag=true) (h1:r.ag=false→r.sz=1)
  (hs:St S (OO r o T v ll::L) h) (k:∀h',St S (OO r o T v (upd ll i (upd l j y))::L) h'→Cv S h S h'→LF P ops Q2 rest B h' n m):LF P ops Q2 (⟨none,.store t X Y,ty,pos,af,none⟩::rest) B h n m:=by
 obtain⟨h0,p⟩:=Eu hi
 obtain⟨vs,hl,ks⟩:=hs.ooOpen
 have H:i.toNat<vs.length:=by rw[hl];exact(nK.1 p).1
 have I:vs[i.toNat]? =some vs[i.toNat]:=by simp [H]
 have J:EP v i.toNat q:=by have:=ep;rwa [show i.toNat*(BW.sl r).sz+0=i.toNat from qJ _] at this
 obtain⟨F,k1,aa⟩:=ks.get (oB ..)
 have he:vs[i.toNat]=u:=by
  obtain⟨a,a1,a2⟩:=XE k1 I J
  obtain⟨a',d,b2⟩:=D
  rw[a1] at d
  injection d with d
  injection d with d
  subst d
  rw[a2] at b2
  exact mZ b2
 obtain⟨M,t1,t2⟩:=Oy (r:=r) (e:=o) I p
 have K:St S (PU (Ss r o vs ll)::OS Ho T v vs::L) h:=ks.pick (.tail .head)
 have b:=t1 K
 rw[he] at b
 have Q:EP u (j.toNat*r.sz+0) A:=by
  obtain⟨F3,s,_⟩:=b.get (oB ..)
  obtain⟨a,nn,c,e1,e2⟩:=G
  rcases s with ⟨⟨ad,s⟩,z2,_⟩|⟨g,cap,cur,s,_⟩
  ·subst z2;unfold ix at z;split at z<;>simp at z
  ·rw[e1] at s
   injection s with U _ _
   injection U with U
   subst U
   refine⟨g,nn,c,e1,?_⟩
   rw[e2,T1,oK]
   rfl
 refine Fm (r:=r) (r':=r) (i:=j) (x:=x) (g:=λ_ y=>y) (off:=0) (y:=y) hx hy C Q z ML.id ht h1 b .head λh' V e'=>k h' ?_ e'
 have W:=t2 u (upd l j y) V
 have w:St S (OS Ho T v vs::PU (Ss r o (vs.set i.toNat u) (ll.set i.toNat (upd l j y)))::L) h':=W.pick (.tail .head)
 rw[NB (he▸I)] at w
 exact Nx (by simp [upd,hl]) w
def Zo {α}(r:BW α) (i:Nat) {T e a:Nat}{len cap:Int}{j l:IntKind}{U V:Operand}(o:Na P T=some (e,1,a,[.slice none 0 0]))
  (p:CQ m U=some (.int j len)) (q:CQ m V=some (.int l cap)) (c:Jh len cap a=true) (b:Nat.blt 0 a=true) (hd:Nat.blt d n.1=true) (s:St S L h)
  (k:∀v h',St S (OO r i e v (List.replicate len.toNat ([]:List α))::L) h'→Cv S h S h'→LF P ops Q2 rest B h' n ((d,v)::m)):LF P ops Q2 (⟨some d,.makeSlice T U V,ty,pos,af,none⟩::rest) B h n m:=
 Jk (r:=Ho) (zx:= .slice none 0 0) o rfl ⟨rfl,rfl⟩ p q c b hd s λv h' g t=>k v h' g.ooNil t
end
end Go.Proofs.YtblcgjadhemlbaaGreat
