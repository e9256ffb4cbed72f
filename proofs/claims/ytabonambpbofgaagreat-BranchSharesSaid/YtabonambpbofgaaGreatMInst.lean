import Derived.Test.YtabonambpbofgaaGreatMCore14
import Derived.Test.YtabonambpbofgaaGreatMCore18
import Derived.Test.YtabonambpbofgaaGreatMCore26
import Derived.Test.YtabonambpbofgaaGreatMCore47
import Derived.Test.YtabonambpbofgaaGreatMReps
import Derived.Test.YtabonambpbofgaaGreatRows
import Derived.Test.YtabonambpbofgaaGreatMSortD
namespace Go.Proofs.YtabonambpbofgaaGreat
set_option linter.all false
open Go.RowKit
def yD {a:Type}(f:a→HP):HP where
 holds:=λS F h=>∃i,(f i).holds S F h
 loc:=λ⟨i,k⟩ s e=>⟨i,(f i).loc k s e⟩
def tK {α}(r:A5 α) (cs:List Value) (x:α):HP where
 holds:=λS F h=>r.rd S h cs x∧∀b,¬F b
 loc:=λ⟨a,c⟩ s e=>⟨r.mono a s λb d=>e b (.inl d),c⟩
section
variable {S:Nat→Prop}{L:List HP}{h:AO}
def St.exO {g:Type}{f:g→HP}(a:St S (yD f::L) h):∃i,St S (f i::L) h:=by
 obtain⟨b,F,⟨i,k⟩,c,d⟩:=a;exact⟨i,b,F,k,c,d⟩
def eY {g:Type}{f:g→HP}(i:g) (a:St S (f i::L) h):St S (yD f::L) h:=by
 obtain⟨b,F,k,c,d⟩:=a;exact⟨b,F,⟨i,k⟩,c,d⟩
def W9 {α}{r:A5 α}{cs:List Value}{x:α}(a:St S (tK r cs x::L) h):r.rd S h cs x∧St S L h:=by
 obtain⟨F,k,_⟩:=a.get (Abf ..);exact⟨k.1,a.drop .head⟩
def TE {α}{r:A5 α}{cs:List Value}{x:α}(a:St S L h) (k:r.rd S h cs x):St S (tK r cs x::L) h:=
 (a.add (H':=tK r cs x) (Aa7 _) (λ_ _=>rfl) ⟨λ_=>False,⟨k,λ_ x=>x⟩,λ_ x=>x.elim⟩).1
end
structure D9 where
 par:Int
 inp:By
 st:AN
 kids:List Int
structure E5 where
 bas:AF
 vs:List (Int×D9)
 cr:Int
instance:Inhabited E5:=⟨⟨default,[],0⟩⟩
def vO:Option Nat→Value
 |none=> .pointer none
 |some b=> .pointer (some ⟨b,0,none⟩)
def VB (T E b:Nat) (x:D9):HP:=yD λp:(List Value×List Value)×Value=>PZ [Pu (AA x.par),tK CZ p.1.1 x.inp,tK B3 p.1.2 x.st,Bx b T (.int .i64 x.par::(p.1.1++(p.1.2++[p.2]))),OS AB E p.2 x.kids]
def Li (T E:Nat) (f:Int→Nat) (vs:List (Int×D9)):List HP:=vs.map λe=>VB T E (f e.1) e.2
def Ng (f:Int→Nat) (vs:List (Int×D9)):List (Int×Option Nat):=vs.map λe=>(e.1,some (f e.1))
def Oz (TT T E:Nat) (v:Value):Option E5→HP
 |none=>Pu (v= .pointer none)
 |some t=>yD λp:(Nat×Nat)×(Int→Nat)×List Value=>PZ (Pu (v= .pointer (some ⟨p.1.1,0,none⟩)∧AA t.cr∧(t.vs.map (·.1)).Nodup)::tK BZ p.2.2 t.bas::Bx p.1.1 TT (p.2.2++[.map (some p.1.2),.int .i64 t.cr])::MP (Value.int .i64) vO p.1.2 (Ng p.2.1 t.vs)::Li T E p.2.1 t.vs)
section
variable {S:Nat→Prop}{L:List HP}{h:AO}{TT T E b bm:Nat}{x:D9}{t:E5}{v:Value}
def St.vbO (a:St S (VB T E b x::L) h):∃c cs d,AA x.par∧CZ.rd S h c x.inp∧B3.rd S h cs x.st∧St S (Bx b T (.int .i64 x.par::(c++(cs++[d])))::OS AB E d x.kids::L) h:=by
 obtain⟨⟨⟨c,cs⟩,d⟩,a⟩:=a.exO;have a:=a.unpack;obtain⟨g,a⟩:=mQ a;obtain⟨i,a⟩:=W9 a;obtain⟨j,a⟩:=W9 a;exact⟨c,cs,d,g,i,j,a⟩
def sF {a cs:List Value}{c:Value}(d:AA x.par) (g:CZ.rd S h a x.inp) (i:B3.rd S h cs x.st) (j:St S (Bx b T (.int .i64 x.par::(a++(cs++[c])))::OS AB E c x.kids::L) h):St S (VB T E b x::L) h:=
 eY ((a,cs),c) (YQ (L1:=[_,_,_,_,_]) (Uz (TE (TE j i) g) d))
def St.trO (a:St S (Oz TT T E v (some t)::L) h):∃b bm f c,v= .pointer (some ⟨b,0,none⟩)∧AA t.cr∧(t.vs.map (·.1)).Nodup∧BZ.rd S h c t.bas∧St S (Bx b TT (c++[.map (some bm),.int .i64 t.cr])::MP (Value.int .i64) vO bm (Ng f t.vs)::(Li T E f t.vs++L)) h:=by
 obtain⟨⟨⟨b,bm⟩,f,c⟩,a⟩:=St.exO a;have a:=St.unpack a;obtain⟨⟨d,g,i⟩,a⟩:=mQ a;obtain⟨j,a⟩:=W9 a;exact⟨b,bm,f,c,d,g,i,j,a⟩
def sH {f:Int→Nat}{a:List Value}(c:v= .pointer (some ⟨b,0,none⟩)) (d:AA t.cr) (g:(t.vs.map (·.1)).Nodup) (i:BZ.rd S h a t.bas) (j:St S (Bx b TT (a++[.map (some bm),.int .i64 t.cr])::MP (Value.int .i64) vO bm (Ng f t.vs)::(Li T E f t.vs++L)) h):St S (Oz TT T E v (some t)::L) h:=
 by
 have:=YQ (L1:=_::_::_::_::Li T E f t.vs) (Uz (p:=v= .pointer (some ⟨b,0,none⟩)∧AA t.cr∧(t.vs.map (·.1)).Nodup) (TE j i) ⟨c,d,g⟩);unfold Oz;exact eY ((b,bm),f,a) this
def eW (a:St S L h):St S (Oz TT T E (.pointer none) none::L) h:=Uz a rfl
end
def C6 (vs:List (Int×D9)) (i:Int):Option D9:=(vs.find? λe=>decide (e.1=i)).map (·.2)
def Mc {vs:List (Int×D9)}{i:Int}{x:D9}(h:C6 vs i=some x):∃p q,vs=p++(i,x)::q∧∀e∈p,e.1≠i:=by
 unfold C6 at h;obtain⟨e,b,rfl⟩:=Ab7.1 h;obtain⟨c,p,q,d,g⟩:=List.find?_eq_some_iff_append.1 b;have:e.1=i:=Acf c;subst this;exact⟨p,q,d,λa j=>by have:=g a j;simpa using this⟩
section
variable {S:Nat→Prop}{L K:List HP}{h:AO}{T E:Nat}{f:Int→Nat}{p q:List (Int×D9)}{i:Int}{x y:D9}
def QB:Li T E f (p++q)=Li T E f p++Li T E f q:=by simp [Li]
def VQ:Li T E f ((i,x)::q)=VB T E (f i) x::Li T E f q:=rfl
def Nt (a:St S (K++(Li T E f (p++(i,x)::q)++L)) h):St S (VB T E (f i) x::(K++(Li T E f p++(Li T E f q++L)))) h:=by
 rw[QB,VQ,Abz,Aa5,←Abz] at a;have:=a.unmid;rwa [Abz] at this
def R8 (a:St S (VB T E (f i) x::(K++(Li T E f p++(Li T E f q++L)))) h):St S (K++(Li T E f (p++(i,x)::q)++L)) h:=by
 rw[QB,VQ,Abz,Aa5,←Abz];rw[←Abz] at a;exact a.mid
end
def QV {d:Type}{k:Int}:∀{m:List (Int×d)},LP (Value.int .i64) m k=(m.find? λe=>decide (e.1=k)).map (·.2)
 |[]=>rfl
 |e::m=>by
  have a:=QV (k:=k) (m:=m);unfold LP at a ⊢;rw[Adg,Adg];by_cases h:e.1=k
  ·subst h;simp [Kn,V8]
  ·have c:Kn (Value.int .i64 k) (Value.int .i64 e.1)=false:=by
    cases b:Kn (Value.int .i64 k) (Value.int .i64 e.1) with
    |false=>rfl
    |true=>simp [Kn,V8] at b;exact absurd b.symm h
   rw[c,Aaz h];exact a
def XQ {f:Int→Nat}{vs:List (Int×D9)}{i:Int}:LP (Value.int .i64) (Ng f vs) i=(C6 vs i).map λ_=>some (f i):=by
 rw[QV];unfold Ng C6;rw[List.find?_map];cases h:vs.find? λe=>decide (e.1=i) with
 |none=>simp [Function.comp_def,h]
 |some e=>
  have:e.1=i:=by simpa using List.find?_some h
  simp [Function.comp_def,h,this]
def WQ {P:Program}{c:Array Oper}{C:World→Prop}{Q:Act→Prop}{n:FN}{m:SM}{a:List Oper}{d:Nat}{ty:TypeId}{g:String}{u:Array Edge}{X Y:Operand}{S:Nat→Prop}{L:List HP}{h:AO}{TT T E:Nat}{v:Value}{o:Option E5}{t t2 i:TypeId}(w:St S L h) (x:Oz TT T E v o∈L) (j:Bz m X=some v) (l:Bz m Y=some (.pointer none)) (p:P.underlying t=some (.pointer i)) (y:((P.info? i).map (·.size)).isSome=true) (hd:Nat.blt d n.1=true) (k:QF P c C Q a n ((d,.bool o.isNone)::m)):
  QF P c C Q (⟨some d,.binOp .eql t X Y t2,ty,g,u,none⟩::a) n m:=by
 obtain⟨k0,q⟩:=Adh.1 y;obtain⟨F,s,_⟩:=w.get x;cases o with
 |none=>
  obtain rfl:v= .pointer none:=s.1;exact SA j l p q hd k
 |some t=>
  obtain⟨⟨⟨b,bm⟩,f,A⟩,B,⟨⟨z,_⟩,_⟩,_⟩:=s;subst z;exact SA j l p q hd k
section
variable {P:Program}{ops:Array Oper}{C:World→Prop}{Q:Act→Prop}{n:FN}{m:SM}{rest:List Oper}
variable {d:Nat}{ty:TypeId}{pos:String}{af:Array Edge}{X Y:Operand}{t:TypeId}{S:Nat→Prop}{L:List HP}{h:AO}{b:Nat}
def Yb {κ β:Type}{kv:κ→Value}{vv:β→Value}{l:List (κ×β)}{kt et:TypeId}(j:CK C h) (o:St S L h) (p:MP kv vv b l∈L) (q:Bz m X=some (.map (some b))) (s:P.underlying t=some (.map kt et)) (hd:Nat.blt d n.1=true) (k:QF P ops C Q rest n ((d,.int .i64 (l.length:Int))::m)):
  QF P ops C Q (⟨some d,.call ⟨.builtin .len,#[X],#[t]⟩,ty,pos,af,none⟩::rest) n m:=λa i=>by
 refine Fu i hd (λw u=>?_) k;obtain⟨F,⟨v,es,c,x,y,_⟩,g⟩:=o.get p;have z:w.heap[b]? =some (.map es c):=(j w u b (g b ((v b).2 rfl)).1).trans x;have A:es.size=l.length:=by
  have:=Aau List.length y;simpa using this
 simp [execOp,resolve,invoke,builtin,Builtin.len_,i.eval q,run_underlying s,MapKept.run_getObj_map z,goInt,A]
end
section
variable {P:Program}{ops:Array Oper}{Q:Exit→Act→World→Prop}{n:FN}{m:SM}{rest:List Oper}{B:World}
variable {ty:TypeId}{pos:String}{af:Array Edge}{X Y Z:Operand}{t:TypeId}{S:Nat→Prop}{L L2:List HP}{h:AO}{b:Nat}
variable {κ β:Type}{kv:κ→Value}{vv:β→Value}{l:List (κ×β)}{k0:κ}{x:β}{kt et:TypeId}
def tC (hs:St S L h) (rp:MR L (MP kv vv b l) (MP kv vv b (N7 kv l k0 x)) L2) (hx:Bz m X=some (.map (some b))) (hy:Bz m Y=some (kv k0)) (hz:Bz m Z=some (vv x)) (hT:P.underlying t=some (.map kt et)) (G:Mr P kt kv)
  (k:∀h',St S L2 h'→BF S h S h'→LF P ops Q rest B h' n m):LF P ops Q (⟨none,.insert t X Y Z,ty,pos,af,none⟩::rest) B h n m:=by
 intro a w q u;refine wpList_plain rfl λK v=>?_;unfold Oper.wp;obtain⟨M,p,_⟩:=rp.pick;obtain⟨F,⟨g1,es,c,g2,H,g4⟩,hF,_⟩:=Sp.pick p hs.2;have y:w.heap[b]? =some (.map es c):=by rw[u.heap];exact g2
 have I:=G.find k0 es.toList w (Qe H);have z:∀(o:Obj) (h0:w.heap=h),(∀c',c'≠b→(w.heap.setIfInBounds b o)[c']? =h[c']?)∧(w.heap.setIfInBounds b o)[b]? =some o∧(w.heap.setIfInBounds b o).size=h.size:=λo h0=>by
  have J:b<w.heap.size:=(Abq.1 y).1;refine⟨λc' A=>by rw[Ad9 (Ne.symm A),h0],?_,by simp [h0]⟩;rw[Array.getElem?_setIfInBounds_self];simp [J]
 have C:∀(d:Array MapEntry) (c':Nat),d.toList.map (λe=>(e.key,e.val))=(N7 kv l k0 x).map (λe=>(kv e.1,vv e.2))→NG d.toList c'→wpList P ops Q rest a { w with heap:=w.heap.setIfInBounds b (.map d c')}:=λd c' he U=>by
  obtain⟨s1,s2,s3⟩:=z (.map d c') u.heap;have V:Wd B (w.heap.setIfInBounds b (.map d c')) { w with heap:=w.heap.setIfInBounds b (.map d c')}:=⟨rfl,u.os,u.tape,u.out⟩
  obtain⟨u1,u2⟩:=hs.upd (h':=w.heap.setIfInBounds b (.map d c')) rp (by omega) λF k1 k2=>⟨F,⟨k1.1,d,c',s2,he,U⟩,λc A=> .inl A,λc _ A=>s1 c λe=>A ((k1.1 c).2 e)⟩
  exact k _ u1 u2 a _ q V
 cases i:T6 (Kn (kv k0)) es.toList 0 with
 |none=>
  rw[i] at I;have g:(execOp a.eval ⟨none,.insert t X Y Z,ty,pos,af,none⟩).run P w= .ok .skip { w with heap:=w.heap.setIfInBounds b (.map (es.push { key:=kv k0,val:=vv x,born:=c}) (c+1))}:=by
   simp [execOp,q.eval hx,q.eval hy,q.eval hz,Instr.mapUpdate,run_underlying hT,MapKept.run_getObj_map y,G.chk,I,MapKept.run_setObj_map _ y]
  rw[g];refine v _ _ (C _ _ ?_ (by rw[Array.toList_push];exact g4.push _ rfl));rw[Sw k0 0 x H i];simp [H]
 |some r=>
  obtain⟨j,r2⟩:=r;rw[i] at I;obtain⟨_,q2,⟨W,q3,q4⟩,q5⟩:=Sv k0 (vv x) 0 j r2 x H i;have D:((es[j]?).map (·.key)).getD (kv k0)=kv W:=by
   have:(es[j]?).map (·.key)=some (kv W):=by simpa using q3
   simp [this]
  have s:(Instr.keyThatStays (kv W) (kv k0)).run P w= .ok (kv k0) w:=by simp [Instr.keyThatStays,G.same _ _ q4]
  have g:(execOp a.eval ⟨none,.insert t X Y Z,ty,pos,af,none⟩).run P w= .ok .skip { w with heap:=w.heap.setIfInBounds b (.map (es.modify j λe=>{ e with key:=kv k0,val:=vv x}) c)}:=by
   simp [execOp,q.eval hx,q.eval hy,q.eval hz,Instr.mapUpdate,run_underlying hT,MapKept.run_getObj_map y,G.chk,I,D,s,MapKept.run_setObj_map _ y]
  rw[g];refine v _ _ (C _ _ ?_ (by rw[Array.toList_modify];exact g4.of (RQ _ _ _ λ_=>rfl)));simpa using q5
end
section
variable {P:Program}{ex:List (Nat×AP)}{RR N:AP}{cs:List Code}{B:World}{h:AO}{n:FN}{m:SM}{C:World→Prop}{l:List Oper}{fuel:Nat}{listed:Array Bool}{d:Nat}{ty:TypeId}{pos:String}{af:Array Edge}{a:Act}{w:World}
def bH {T:TypeId}{b:Array (Nat×Operand)}{pl z pv}{cs:List Value}(o:Fr n a m) (q:SS P T=some (pl,z)) (c:b.toList.mapM (Za m)=some pv) (k:MJ pl z pv=some cs):(execOp a.eval ⟨some d,.build T b,ty,pos,af,none⟩).run P w= .ok (.value (.agg cs.toArray)) w:=by
 have i:(b.map λ(p:Nat×Operand)=>(p.1,a.eval p.2)).toList=pv:=by
  obtain⟨l⟩:=b;simp only at c;simp only[List.map_toArray];clear k
  induction l generalizing pv with
  |nil=>simp at c;subst c;rfl
  |cons x l s=>
   simp only[Adb,Adr,Acr,Za,Ab7] at c;obtain⟨y,⟨v,t,rfl⟩,u,j,g⟩:=c;simp only[Ads,Abr] at g;subst g;simp only[Abg,o.eval t,s j]
 have:=run_build (P:=P) w T (b.map λ(p:Nat×Operand)=>(p.1,a.eval p.2)) cs.toArray (by rw[i];exact WK q k);simp only[execOp,Sem.run_bind,this];rfl
def tF (i:Nat) {T:TypeId}{b:Array (Nat×Operand)}{pl z pv}{vs:List Value}(g:l[i]? =some ⟨some d,.build T b,ty,pos,af,none⟩) (c:R5 l listed i=true) (j:∀w,Wd B h w→C w) (o:SS P T=some (pl,z)) (p:b.toList.mapM (Za m)=some pv) (q:MJ pl z pv=some vs) (hd:Nat.blt d n.1=true) (k:HF P l (QW P ex RR cs N) C fuel (listed.setIfInBounds i true) B h n ((d,.agg vs.toArray)::m)):HF P l (QW P ex RR cs N) C (fuel+1) listed B h n m:=
 O4 i g c j hd (λa w s _=>bH s o p q) k
end
def iD:By:=⟨[],[],[],[],[]⟩
def pJ {S:Nat→Prop}{h:AO}:Rd S h CZ (.agg #[.slice none 0 0,.slice none 0 0,.slice none 0 0,.slice none 0 0,.slice none 0 0]) iD:=
 CZ.mk (x:=iD) (.inl ⟨rfl,rfl⟩) (.inl ⟨rfl,rfl⟩) (.inl ⟨rfl,rfl⟩) (.inl ⟨rfl,rfl⟩) (.inl ⟨rfl,rfl⟩)
def St.trX {S:Nat→Prop}{L:List HP}{h:AO}{TT T E:Nat}{v:Value}{t:E5}(n:St S (Oz TT T E v (some t)::L) h):∃b m f v1 a c d g i j l,v= .pointer (some ⟨b,0,none⟩)∧AA t.cr∧(t.vs.map (·.1)).Nodup∧Rd S h BZ (.agg #[.string t.bas.D,v1,.int .i64 t.bas.J,a,c,d,g,i,j,l,.int .i64 t.bas.K]) t.bas∧St S (Bx b TT [.string t.bas.D,v1,.int .i64 t.bas.J,a,c,d,g,i,j,l,.int .i64 t.bas.K,.map (some m),.int .i64 t.cr]::MP (Value.int .i64) vO m (Ng f t.vs)::(Li T E f t.vs++L)) h:=by
 obtain⟨b,m,f,u,o,p,q,s,n⟩:=n.trO;obtain⟨v1,a,c,d,g,i,j,l,rfl,k⟩:=s;exact⟨b,m,f,v1,a,c,d,g,i,j,l,o,p,q,⟨_,rfl,v1,a,c,d,g,i,j,l,rfl,k⟩,n⟩
def O0 {S:Nat→Prop}{L:List HP}{h:AO}{TT T E b m:Nat}{t:E5}{f:Int→Nat}{v1 a c d g i j l:Value}(n:AA t.cr) (o:(t.vs.map (·.1)).Nodup) (p:Rd S h BZ (.agg #[.string t.bas.D,v1,.int .i64 t.bas.J,a,c,d,g,i,j,l,.int .i64 t.bas.K]) t.bas) (q:St S (Bx b TT [.string t.bas.D,v1,.int .i64 t.bas.J,a,c,d,g,i,j,l,.int .i64 t.bas.K,.map (some m),.int .i64 t.cr]::MP (Value.int .i64) vO m (Ng f t.vs)::(Li T E f t.vs++L)) h):St S (Oz TT T E (.pointer (some ⟨b,0,none⟩)) (some t)::L) h:=by
 obtain⟨cs,e,k⟩:=p;obtain rfl:cs=[.string t.bas.D,v1,.int .i64 t.bas.J,a,c,d,g,i,j,l,.int .i64 t.bas.K]:=by
  have:Value.agg #[.string t.bas.D,v1,.int .i64 t.bas.J,a,c,d,g,i,j,l,.int .i64 t.bas.K]= .agg cs.toArray:=e;have:=Aau Array.toList (Value.agg.inj this);simpa using this.symm
 exact sH rfl n o k q
def St.vbX {S:Nat→Prop}{L:List HP}{h:AO}{T E b:Nat}{x:D9}(t:St S (VB T E b x::L) h):∃a c d g i l m n o p q s,AA x.par∧Rd S h CZ (.agg #[a,c,d,g,i]) x.inp∧AA x.st.B∧Rd S h B3 (.agg #[.int .i64 x.st.B,l,m,n,o,p,q]) x.st∧St S (Bx b T [.int .i64 x.par,a,c,d,g,i,.int .i64 x.st.B,l,m,n,o,p,q,s]::OS AB E s x.kids::L) h:=by
 obtain⟨y,cs,s,u,v,w,t⟩:=t.vbO;obtain⟨a,c,d,g,i,rfl,k⟩:=v;obtain⟨l,m,n,o,p,q,rfl,j⟩:=w;exact⟨a,c,d,g,i,l,m,n,o,p,q,s,u,⟨_,rfl,a,c,d,g,i,rfl,k⟩,j.1,⟨_,rfl,l,m,n,o,p,q,rfl,j⟩,t⟩
def RE {S:Nat→Prop}{L:List HP}{h:AO}{T E b:Nat}{x:D9}{a c d g i l m n o p q s:Value}(u:AA x.par) (v:Rd S h CZ (.agg #[a,c,d,g,i]) x.inp) (w:Rd S h B3 (.agg #[.int .i64 x.st.B,l,m,n,o,p,q]) x.st) (y:St S (Bx b T [.int .i64 x.par,a,c,d,g,i,.int .i64 x.st.B,l,m,n,o,p,q,s]::OS AB E s x.kids::L) h):St S (VB T E b x::L) h:=by
 obtain⟨t,e,k⟩:=v;obtain⟨cs,z,j⟩:=w;obtain rfl:t=[a,c,d,g,i]:=by
  have:Value.agg #[a,c,d,g,i]= .agg t.toArray:=e;have:=Aau Array.toList (Value.agg.inj this);simpa using this.symm
 obtain rfl:cs=[.int .i64 x.st.B,l,m,n,o,p,q]:=by
  have:Value.agg #[.int .i64 x.st.B,l,m,n,o,p,q]= .agg cs.toArray:=z;have:=Aau Array.toList (Value.agg.inj this);simpa using this.symm
 exact sF u k j y
def Nf {f:Int→Nat}{vs:List (Int×D9)}{i:Int}:(if true=true then Value.tuple #[vO ((LP (Value.int .i64) (Ng f vs) i).getD none),.bool (LP (Value.int .i64) (Ng f vs) i).isSome] else vO ((LP (Value.int .i64) (Ng f vs) i).getD none))= .tuple #[vO ((C6 vs i).map λ_=>f i),.bool (C6 vs i).isSome]:=by
 rw[XQ];cases C6 vs i<;>rfl
def Zn {f:Int→Nat}{vs:List (Int×D9)}{i:Int}:(if false=true then Value.tuple #[vO ((LP (Value.int .i64) (Ng f vs) i).getD none),.bool (LP (Value.int .i64) (Ng f vs) i).isSome] else vO ((LP (Value.int .i64) (Ng f vs) i).getD none))=vO ((C6 vs i).map λ_=>f i):=by
 rw[XQ];cases C6 vs i<;>rfl
def XP {f:Int→Nat}{vs:List (Int×D9)}:(Ng f vs).length=vs.length:=by simp [Ng]
def st0:AN:=⟨0,[],[],[],[],[],[]⟩
def oH {S:Nat→Prop}{h:AO}:Rd S h B3 (.agg #[.int .i64 0,.slice none 0 0,.slice none 0 0,.slice none 0 0,.slice none 0 0,.slice none 0 0,.slice none 0 0]) st0:=
 B3.mk (x:=st0) ⟨by decide,by decide⟩ (.inl ⟨rfl,rfl⟩) (.inl ⟨rfl,rfl⟩) (.inl ⟨rfl,rfl⟩) (.inl ⟨rfl,rfl⟩) (.inl ⟨rfl,rfl⟩) (.inl ⟨rfl,rfl⟩)
def sG {S:Nat→Prop}{L:List HP}{h:AO}{H:HP}{TT T E b a:Nat}{t:E5}{f:Int→Nat}{v1 c d g i j k l:Value}(m:AA t.cr) (n:(t.vs.map (·.1)).Nodup) (o:Rd S h BZ (.agg #[.string t.bas.D,v1,.int .i64 t.bas.J,c,d,g,i,j,k,l,.int .i64 t.bas.K]) t.bas) (p:St S (H::Bx b TT [.string t.bas.D,v1,.int .i64 t.bas.J,c,d,g,i,j,k,l,.int .i64 t.bas.K,.map (some a),.int .i64 t.cr]::MP (Value.int .i64) vO a (Ng f t.vs)::(Li T E f t.vs++L)) h):St S (H::Oz TT T E (.pointer (some ⟨b,0,none⟩)) (some t)::L) h:=by
 have q:=St.mid (M:=Bx b TT [.string t.bas.D,v1,.int .i64 t.bas.J,c,d,g,i,j,k,l,.int .i64 t.bas.K,.map (some a),.int .i64 t.cr]::MP (Value.int .i64) vO a (Ng f t.vs)::Li T E f t.vs) p;exact(O0 m n o q).pick (.tail .head)
def RX (vs:List (Int×D9)) (ks:List Int):List (Int×D9):=ks.filterMap λi=>(C6 vs i).map λx=>(i,{ x with kids:=x.kids.filter λk=>ks.contains k})
def Mb (vs:List (Int×D9)) (p:Int) (x:D9):List (Int×D9):=vs.map λe=>if e.1=p then (p,x) else e
def Ys {P Q:List (Int×D9)}{p:Int}{x y:D9}(c:((P++(p,x)::Q).map (·.1)).Nodup):Mb (P++(p,x)::Q) p y=P++(p,y)::Q:=by
 rw[Ach,Abg,List.nodup_append] at c;obtain⟨_,a,d⟩:=c;have a:=Adj.1 a;have g:P.map (λe=>if e.1=p then (p,y) else e)=P:=by
  conv=>rhs;rw[←List.map_id P]
  refine Adn λe b=>?_;rw[Aas λh=>d e.1 (Abm.2 ⟨e,b,rfl⟩) p (by simp) h];rfl
 have i:Q.map (λe=>if e.1=p then (p,y) else e)=Q:=by
  conv=>rhs;rw[←List.map_id Q]
  refine Adn λe b=>?_;rw[Aas λh=>a.1 (Abm.2 ⟨e,b,h⟩)];rfl
 unfold Mb;rw[Ach,Abg,Aav rfl,g,i]
def Yt {P Q:List (Int×D9)}{p k:Int}{x y:D9}(a:k≠p) (h:C6 (P++(p,x)::Q) k=some y):C6 (P++Q) k=some y:=by
 unfold C6 at h ⊢;rw[Ad0,Adg,Aaz (λe=>a e.symm)] at h;rw[Ad0];exact h
def gE {f:Int→Nat}{vs:List (Int×D9)}{c:Int}{b:Nat}{x:D9}(a:C6 vs c=none):N7 (Value.int .i64) (Ng f vs) c (some b)=Ng (λi=>if i=c then b else f i) (vs++[(c,x)]):=by
 induction vs with
 |nil=>simp [Ng,N7]
 |cons e vs d=>
  unfold C6 at a d;rw[Adg] at a;by_cases h:e.1=c
  ·rw[Aba h] at a;cases a
  ·rw[Aaz h] at a;have d:=d a;have j:Kn (Value.int .i64 c) (Value.int .i64 e.1)=false:=by
    cases g:Kn (Value.int .i64 c) (Value.int .i64 e.1) with
    |false=>rfl
    |true=>simp [Kn,V8] at g;exact absurd g.symm h
   simp only[Ng,Abg,N7,j,Aa5,Aas h,Aco,Acp] at d ⊢;rw[d]
def XS {T E:Nat}{f:Int→Nat}{vs:List (Int×D9)}{c:Int}{b:Nat}(a:∀e∈vs,e.1≠c):Li T E (λi=>if i=c then b else f i) vs=Li T E f vs:=by
 unfold Li;exact Adn λe d=>by show VB T E (if e.1=c then b else f e.1) e.2=_;rw[Aas (a e d)]
def gC {f:Int→Nat}{P Q:List (Int×D9)}{p:Int}{x y:D9}:Ng f (P++(p,x)::Q)=Ng f (P++(p,y)::Q):=by simp [Ng]
def Yu {vs:List (Int×D9)}{c:Int}(h:C6 vs c=none):∀e∈vs,e.1≠c:=λe a b=>by
 unfold C6 at h;have:=List.find?_eq_none.1 (Option.map_eq_none_iff.1 h) e a;simp [b] at this
open Go.Proofs.Tryz
def Zg:FM prog 31=some [.string ByteArray.empty,.slice none 0 0,.int .i64 0,.slice none 0 0,.slice none 0 0,.slice none 0 0,.slice none 0 0,.slice none 0 0,.slice none 0 0,.slice none 0 0,.int .i64 0]:=by kernel_rfl
def dH:NH prog 22=some (9,1,16,[.string ByteArray.empty]):=by kernel_rfl
def oF:SS prog 129=some ([(0,1),(1,1)],[.int .i64 0,.int .i64 0]):=by kernel_rfl
def Wy:NH prog 130=some (129,2,16,[.int .i64 0,.int .i64 0]):=by kernel_rfl
def H5:NH prog 29=some (3,1,8,[.int .i64 0]):=by kernel_rfl
def oE:SS prog 133=some ([(0,1),(1,1),(2,1),(3,1),(4,1),(5,1),(6,1),(7,1),(8,1),(9,1),(10,1),(11,1)],[.string ByteArray.empty,.int .i64 0,.int .i64 0,.int .i64 0,.slice none 0 0,.slice none 0 0,.int .i64 0,.int .i64 0,.int .i64 0,.int .i64 0,.int .i64 0,.slice none 0 0]):=by kernel_rfl
def dG:NH prog 23=some (133,12,152,[.string ByteArray.empty,.int .i64 0,.int .i64 0,.int .i64 0,.slice none 0 0,.slice none 0 0,.int .i64 0,.int .i64 0,.int .i64 0,.int .i64 0,.int .i64 0,.slice none 0 0]):=by kernel_rfl
def uB:SS prog 31=some ([(0,1),(1,1),(2,1),(3,1),(4,1),(5,1),(6,1),(7,1),(8,1),(9,1),(10,1)],[.string ByteArray.empty,.slice none 0 0,.int .i64 0,.slice none 0 0,.slice none 0 0,.slice none 0 0,.slice none 0 0,.slice none 0 0,.slice none 0 0,.slice none 0 0,.int .i64 0]):=by kernel_rfl
def wZ:BD prog 34=true:=by kernel_rfl
def P9:FM prog 36=some [.int .i64 0,.slice none 0 0,.slice none 0 0,.slice none 0 0,.slice none 0 0,.slice none 0 0,.slice none 0 0]:=by kernel_rfl
def mo:prog.follows .mixedOrders=true:=by kernel_rfl
def lM:SS prog 36=some ([(0,1),(1,1),(2,1),(3,1),(4,1),(5,1),(6,1)],[.int .i64 0,.slice none 0 0,.slice none 0 0,.slice none 0 0,.slice none 0 0,.slice none 0 0,.slice none 0 0]):=by kernel_rfl
def V9:NH prog 32=some (29,1,24,[.slice none 0 0]):=by kernel_rfl
def dF:NH prog 34=some (107,4,24,[.int .i64 0,.int .i64 0,.bool false,.bool false]):=by kernel_rfl
def Zv:∃e,prog.underlying 29=some (.slice e):=⟨3,by kernel_rfl⟩
def Pk:FM prog 133=some [.string ByteArray.empty,.int .i64 0,.int .i64 0,.int .i64 0,.slice none 0 0,.slice none 0 0,.int .i64 0,.int .i64 0,.int .i64 0,.int .i64 0,.int .i64 0,.slice none 0 0]:=by kernel_rfl
def Mp:BD prog 73=true:=by kernel_rfl
def TU:prog.underlying 9=some .string:=by kernel_rfl
def He:BD prog 143=true:=by kernel_rfl
def Js:BD prog 144=true:=by kernel_rfl
def mX:FM prog 225=some [.map none]:=by kernel_rfl
def yF:FM prog 4=some [.bool false]:=by kernel_rfl
def nX:SS prog 261=some ([(0,1),(1,1)],[.string ByteArray.empty,.string ByteArray.empty]):=by kernel_rfl
def mV:FM prog 261=some [.string ByteArray.empty,.string ByteArray.empty]:=by kernel_rfl
def qQ:BD prog 200=true:=by kernel_rfl
def Z4:prog.underlying 225=some (.map 261 4):=by kernel_rfl
def pN:fW prog 261=some [3,3]:=by kernel_rfl
def Xx:Mr prog 261 (λk:AG=>Value.agg (AG.v k).toArray):=Mr.agg (f:=AG.v) underlying261 pN (λk=>rfl) (λa b=>rfl) (λk e w=>by kernel_rfl) (λa b c=>by
 simp only[AG.v,Ra,V8,Aax,Ut,Abd,beq_iff_eq] at c;simp [AG.v,c]) (λa=>by simp [Instr.sameBits,AG.v,Ut.2])
def yE:∀w,(zeroValue 4).run prog w= .ok (.bool false) w:=λw=>by kernel_rfl
def rE:BD prog 146=true:=by kernel_rfl
def P3:BD prog 145=true:=by kernel_rfl
def OI:FM prog 139=some [.string ByteArray.empty,.int .i64 0,.int .i64 0,.int .i64 0,.slice none 0 0,.slice none 0 0,.slice none 0 0,.int .i64 0,.int .i64 0,.int .i64 0,.int .i64 0,.int .i64 0,.int .i64 0,.int .i64 0,.int .i64 0,.int .i64 0,.int .i64 0,.int .i64 0]:=by kernel_rfl
def Zk:FM prog 215=some [.string ByteArray.empty,.int .i64 0,.int .i64 0,.int .i64 0,.int .i64 0,.int .i64 0,.int .i64 0]:=by kernel_rfl
def Zh:FM prog 224=some [.string ByteArray.empty,.int .i64 0]:=by kernel_rfl
def Zj:FM prog 218=some [.string ByteArray.empty,.int .i64 0,.int .i64 0,.int .i64 0,.int .i64 0]:=by kernel_rfl
def Zi:FM prog 221=some [.string ByteArray.empty,.int .i64 0,.int .i64 0,.int .i64 0,.int .i64 0,.int .i64 0,.int .i64 0]:=by kernel_rfl
def UK:FM prog 129=some [.int .i64 0,.int .i64 0]:=by kernel_rfl
def P1:BD prog 150=true:=by kernel_rfl
def P2:BD prog 147=true:=by kernel_rfl
def W3:BD prog 148=true:=by kernel_rfl
def eJ:BD prog 149=true:=by kernel_rfl
def mY:FM prog 210=some [.int .i64 0,.int .i64 0]:=by kernel_rfl
def Qr:prog.underlying 3=some (.int .i64):=by kernel_rfl
def Wb:prog.underlying 244=some (.int .u64):=by kernel_rfl
def qF:BD prog 242=true:=by kernel_rfl
def qG:BD prog 241=true:=by kernel_rfl
def M4:prog.underlying 125=some (.int .u64):=by kernel_rfl
def dW:BD prog 202=true:=by kernel_rfl
def tX:prog.underlying 5=some (.int .u8):=by kernel_rfl
def qE:BD prog 243=true:=by kernel_rfl
def qK:BD prog 228=true:=by kernel_rfl
def dV:BD prog 203=true:=by kernel_rfl
def S7:BD prog 195=true:=by kernel_rfl
def W2:BD prog 227=true:=by kernel_rfl
def dX:BD prog 201=true:=by kernel_rfl
def rD:BD prog 151=true:=by kernel_rfl
def rC:BD prog 152=true:=by kernel_rfl
def eH:BD prog 153=true:=by kernel_rfl
def Q7:BD prog 154=true:=by kernel_rfl
def pU:NH prog 264=some (130,1,24,[.slice none 0 0]):=by kernel_rfl
def rB:BD prog 155=true:=by kernel_rfl
def sD:xW prog 232=some ([(0,1),(1,1),(2,1)],[.int .i64 0,.int .i64 0,.int .i64 0]):=by kernel_rfl
def mW:FM prog 232=some [.int .i64 0,.int .i64 0,.int .i64 0]:=by kernel_rfl
def sB:zF prog 232 3 1=true:=by kernel_rfl
def wI:BD prog 74=true:=by kernel_rfl
def wH:BD prog 75=true:=by kernel_rfl
def wF:BD prog 76=true:=by kernel_rfl
def wE:BD prog 77=true:=by kernel_rfl
def wD:BD prog 78=true:=by kernel_rfl
def wC:BD prog 79=true:=by kernel_rfl
def wB:BD prog 80=true:=by kernel_rfl
def wA:BD prog 81=true:=by kernel_rfl
def vZ:BD prog 82=true:=by kernel_rfl
def SD:FM prog 107=some [.int .i64 0,.int .i64 0,.bool false,.bool false]:=by kernel_rfl
def dU:BD prog 204=true:=by kernel_rfl
def WG:BD prog 63=true:=by kernel_rfl
def eG:BD prog 156=true:=by kernel_rfl
def Pd:BD prog 31=true:=by kernel_rfl
def WY:FM prog 103=some [.int .i64 0,.int .i64 0,.slice none 0 0]:=by kernel_rfl
def Oi:BD prog 113=true:=by kernel_rfl
def vY:BD prog 83=true:=by kernel_rfl
def mJ:BD prog 84=true:=by kernel_rfl
def Zu:∃e,prog.underlying 32=some (.slice e):=⟨29,by kernel_rfl⟩
def rO:BD prog 132=true:=by kernel_rfl
def Zt:∃e,prog.underlying 33=some (.slice e):=⟨103,by kernel_rfl⟩
def Rb:NH prog 33=some (103,3,40,[.int .i64 0,.int .i64 0,.slice none 0 0]):=by kernel_rfl
def rN:BD prog 133=true:=by kernel_rfl
def Zs:∃e,prog.underlying 34=some (.slice e):=⟨107,by kernel_rfl⟩
def eL:BD prog 112=true:=by kernel_rfl
def Z2:∃e,prog.underlying 22=some (.slice e):=⟨9,by kernel_rfl⟩
def rM:BD prog 134=true:=by kernel_rfl
def Z1:∃e,prog.underlying 23=some (.slice e):=⟨133,by kernel_rfl⟩
def rL:BD prog 135=true:=by kernel_rfl
def XX:∃e,prog.underlying 130=some (.slice e):=⟨129,by kernel_rfl⟩
def XW:∃e,prog.underlying 131=some (.slice e):=⟨210,by kernel_rfl⟩
def dI:NH prog 131=some (210,2,16,[.int .i64 0,.int .i64 0]):=by kernel_rfl
def Ur:BD prog 136=true:=by kernel_rfl
def rK:BD prog 137=true:=by kernel_rfl
def Z0:∃e,prog.underlying 24=some (.slice e):=⟨139,by kernel_rfl⟩
def mH:NH prog 24=some (139,18,200,[.string ByteArray.empty,.int .i64 0,.int .i64 0,.int .i64 0,.slice none 0 0,.slice none 0 0,.slice none 0 0,.int .i64 0,.int .i64 0,.int .i64 0,.int .i64 0,.int .i64 0,.int .i64 0,.int .i64 0,.int .i64 0,.int .i64 0,.int .i64 0,.int .i64 0]):=by kernel_rfl
def rJ:BD prog 138=true:=by kernel_rfl
def Zz:∃e,prog.underlying 25=some (.slice e):=⟨215,by kernel_rfl⟩
def mG:NH prog 25=some (215,7,64,[.string ByteArray.empty,.int .i64 0,.int .i64 0,.int .i64 0,.int .i64 0,.int .i64 0,.int .i64 0]):=by kernel_rfl
def rI:BD prog 139=true:=by kernel_rfl
def Zy:∃e,prog.underlying 26=some (.slice e):=⟨218,by kernel_rfl⟩
def mF:NH prog 26=some (218,5,48,[.string ByteArray.empty,.int .i64 0,.int .i64 0,.int .i64 0,.int .i64 0]):=by kernel_rfl
def rH:BD prog 140=true:=by kernel_rfl
def Zx:∃e,prog.underlying 27=some (.slice e):=⟨221,by kernel_rfl⟩
def mE:NH prog 27=some (221,7,64,[.string ByteArray.empty,.int .i64 0,.int .i64 0,.int .i64 0,.int .i64 0,.int .i64 0,.int .i64 0]):=by kernel_rfl
def rG:BD prog 141=true:=by kernel_rfl
def Zw:∃e,prog.underlying 28=some (.slice e):=⟨224,by kernel_rfl⟩
def mD:NH prog 28=some (224,2,24,[.string ByteArray.empty,.int .i64 0]):=by kernel_rfl
def rF:BD prog 142=true:=by kernel_rfl
def lL:SS prog 93=some ([(0,1),(1,5),(6,7),(13,1)],[.int .i64 0,.slice none 0 0,.slice none 0 0,.slice none 0 0,.slice none 0 0,.slice none 0 0,.int .i64 0,.slice none 0 0,.slice none 0 0,.slice none 0 0,.slice none 0 0,.slice none 0 0,.slice none 0 0,.slice none 0 0]):=by kernel_rfl
def uA:SS prog 91=some ([(0,11),(11,1),(12,1)],[.string ByteArray.empty,.slice none 0 0,.int .i64 0,.slice none 0 0,.slice none 0 0,.slice none 0 0,.slice none 0 0,.slice none 0 0,.slice none 0 0,.slice none 0 0,.int .i64 0,.map none,.int .i64 0]):=by kernel_rfl
def mM:BD prog 37=true:=by kernel_rfl
def mL:BD prog 38=true:=by kernel_rfl
def wK:BD prog 71=true:=by kernel_rfl
def wJ:BD prog 72=true:=by kernel_rfl
def wW:BD prog 40=true:=by kernel_rfl
def wX:BD prog 39=true:=by kernel_rfl
def xA:BD prog 28=true:=by kernel_rfl
def wV:BD prog 41=true:=by kernel_rfl
def Ll:prog.underlying 89=some (.map 3 87):=by kernel_rfl
def Mz:Mr prog 3 (Value.int .i64):=Mr.int (by kernel_rfl) (λs e w=>by kernel_rfl)
def M3:∀w,(zeroValue 87).run prog w= .ok (vO none) w:=λw=>by kernel_rfl
def XN:FM prog 50=some [.slice none 0 0,.slice none 0 0,.slice none 0 0,.slice none 0 0,.slice none 0 0]:=by kernel_rfl
def mK:BD prog 55=true:=by kernel_rfl
def wR:BD prog 54=true:=by kernel_rfl
def eN:BD prog 111=true:=by kernel_rfl
def kZ:prog.underlying 87=some (.pointer 93):=by kernel_rfl
def cM:((prog.info? 93).map (·.size)).isSome=true:=by kernel_rfl
def nJ:prog.underlying 29=some (.slice 3):=by kernel_rfl
def tN:∀w,(zeroValue 3).run prog w= .ok (.int .i64 0) w:=λw=>by kernel_rfl
def tO:FM prog 89=some [.map none]:=by kernel_rfl
def wY:BD prog 36=true:=by kernel_rfl
def mN:BD prog 35=true:=by kernel_rfl
def lA:prog.underlying 40=some (.pointer 91):=by kernel_rfl
def cN:((prog.info? 91).map (·.size)).isSome=true:=by kernel_rfl
def SR:SS prog 50=some ([(0,1),(1,1),(2,1),(3,1),(4,1)],[.slice none 0 0,.slice none 0 0,.slice none 0 0,.slice none 0 0,.slice none 0 0]):=by kernel_rfl
def wT:BD prog 49=true:=by kernel_rfl
def pR:fW prog 148=some [1,1]:=by kernel_rfl
def rA:BD prog 157=true:=by kernel_rfl
def pQ:fW prog 153=some [1,1]:=by kernel_rfl
def qZ:BD prog 158=true:=by kernel_rfl
def pP:fW prog 158=some [1,1,1,1]:=by kernel_rfl
def qY:BD prog 159=true:=by kernel_rfl
def pO:fW prog 163=some [1,1,1,1]:=by kernel_rfl
def qX:BD prog 160=true:=by kernel_rfl
def oD:SS prog 145=some ([(0,1),(1,1)],[.slice none 0 0,.slice none 0 0]):=by kernel_rfl
def vX:BD prog 85=true:=by kernel_rfl
def oC:SS prog 150=some ([(0,1),(1,1)],[.slice none 0 0,.slice none 0 0]):=by kernel_rfl
def vW:BD prog 86=true:=by kernel_rfl
def oA:SS prog 155=some ([(0,1),(1,1)],[.slice none 0 0,.slice none 0 0]):=by kernel_rfl
def vV:BD prog 87=true:=by kernel_rfl
def nZ:SS prog 160=some ([(0,1),(1,1)],[.slice none 0 0,.slice none 0 0]):=by kernel_rfl
def vU:BD prog 88=true:=by kernel_rfl
def nY:SS prog 165=some ([(0,1),(1,1)],[.slice none 0 0,.slice none 0 0]):=by kernel_rfl
def vT:BD prog 89=true:=by kernel_rfl
def Zr:∃e,prog.underlying 45=some (.slice e):=⟨148,by kernel_rfl⟩
def mC:NH prog 45=some (148,2,16,[.int .i64 0,.int .i64 0]):=by kernel_rfl
def Zq:∃e,prog.underlying 46=some (.slice e):=⟨153,by kernel_rfl⟩
def mB:NH prog 46=some (153,2,16,[.int .i64 0,.int .i64 0]):=by kernel_rfl
def Zp:∃e,prog.underlying 47=some (.slice e):=⟨158,by kernel_rfl⟩
def mA:NH prog 47=some (158,4,32,[.int .i64 0,.int .i64 0,.int .i64 0,.int .i64 0]):=by kernel_rfl
def Zo:∃e,prog.underlying 48=some (.slice e):=⟨163,by kernel_rfl⟩
def lZ:NH prog 48=some (163,4,32,[.int .i64 0,.int .i64 0,.int .i64 0,.int .i64 0]):=by kernel_rfl
def vS:BD prog 90=true:=by kernel_rfl
def vR:BD prog 91=true:=by kernel_rfl
def vQ:BD prog 92=true:=by kernel_rfl
def vM:BD prog 93=true:=by kernel_rfl
def wQ:BD prog 57=true:=by kernel_rfl
def oG:SS prog 112=some ([(0,11),(11,5),(16,7),(23,1),(24,1),(25,1)],[.string ByteArray.empty,.slice none 0 0,.int .i64 0,.slice none 0 0,.slice none 0 0,.slice none 0 0,.slice none 0 0,.slice none 0 0,.slice none 0 0,.slice none 0 0,.int .i64 0,.slice none 0 0,.slice none 0 0,.slice none 0 0,.slice none 0 0,.slice none 0 0,.int .i64 0,.slice none 0 0,.slice none 0 0,.slice none 0 0,.slice none 0 0,.slice none 0 0,.slice none 0 0,.slice none 0 0,.slice none 0 0,.slice none 0 0]):=by kernel_rfl
def nE:FM prog 112=some [.string ByteArray.empty,.slice none 0 0,.int .i64 0,.slice none 0 0,.slice none 0 0,.slice none 0 0,.slice none 0 0,.slice none 0 0,.slice none 0 0,.slice none 0 0,.int .i64 0,.slice none 0 0,.slice none 0 0,.slice none 0 0,.slice none 0 0,.slice none 0 0,.int .i64 0,.slice none 0 0,.slice none 0 0,.slice none 0 0,.slice none 0 0,.slice none 0 0,.slice none 0 0,.slice none 0 0,.slice none 0 0,.slice none 0 0]:=by kernel_rfl
def nD:FM prog 148=some [.int .i64 0,.int .i64 0]:=by kernel_rfl
def rZ:BD prog 114=true:=by kernel_rfl
def WH:BD prog 14=true:=by kernel_rfl
def nC:FM prog 153=some [.int .i64 0,.int .i64 0]:=by kernel_rfl
def rY:BD prog 115=true:=by kernel_rfl
def TA:BD prog 187=true:=by kernel_rfl
def rX:BD prog 116=true:=by kernel_rfl
def wP:BD prog 58=true:=by kernel_rfl
def eF:BD prog 188=true:=by kernel_rfl
def nA:FM prog 163=some [.int .i64 0,.int .i64 0,.int .i64 0,.int .i64 0]:=by kernel_rfl
def rW:BD prog 117=true:=by kernel_rfl
def wO:BD prog 59=true:=by kernel_rfl
def aR:SS prog 116=some ([(0,1),(1,1),(2,1),(3,1),(4,1)],[.int .i64 0,.int .i64 0,.int .i64 0,.int .i64 0,.slice none 0 0]):=by kernel_rfl
def YB:NH prog 71=some (116,5,56,[.int .i64 0,.int .i64 0,.int .i64 0,.int .i64 0,.slice none 0 0]):=by kernel_rfl
def wN:BD prog 60=true:=by kernel_rfl
def W5:BD prog 119=true:=by kernel_rfl
def aS:SS prog 103=some ([(0,1),(1,1),(2,1)],[.int .i64 0,.int .i64 0,.slice none 0 0]):=by kernel_rfl
def rV:BD prog 118=true:=by kernel_rfl
def rU:BD prog 120=true:=by kernel_rfl
def wM:BD prog 61=true:=by kernel_rfl
def dT:BD prog 221=true:=by kernel_rfl
def qU:BD prog 191=true:=by kernel_rfl
def nB:FM prog 158=some [.int .i64 0,.int .i64 0,.int .i64 0,.int .i64 0]:=by kernel_rfl
def Qu:SS prog 194=some ([(0,1),(1,1),(2,1),(3,1)],[.int .i64 0,.int .i64 0,.int .i64 0,.nilFunc]):=by kernel_rfl
def qV:BD prog 190=true:=by kernel_rfl
def M9:NH prog 190=some (194,4,32,[.int .i64 0,.int .i64 0,.int .i64 0,.nilFunc]):=by kernel_rfl
def rR:BD prog 122=true:=by kernel_rfl
def Sy:BD prog 236=true:=by kernel_rfl
def qI:BD prog 238=true:=by kernel_rfl
def qJ:BD prog 237=true:=by kernel_rfl
def qP:BD prog 222=true:=by kernel_rfl
def kW:FM prog 29=some [.slice none 0 0]:=by kernel_rfl
def vF:zA prog 29=true:=by kernel_rfl
def qH:BD prog 239=true:=by kernel_rfl
def qL:BD prog 226=true:=by kernel_rfl
def qR:BD prog 197=true:=by kernel_rfl
def dS:BD prog 223=true:=by kernel_rfl
def qT:BD prog 192=true:=by kernel_rfl
def TB:BD prog 126=true:=by kernel_rfl
def Sz:BD prog 196=true:=by kernel_rfl
def dZ:BD prog 193=true:=by kernel_rfl
def rQ:BD prog 123=true:=by kernel_rfl
def pV:NH prog 248=some (190,1,24,[.slice none 0 0]):=by kernel_rfl
def yK:prog.underlying 3=some (.int .i64):=by kernel_rfl
def qW:BD prog 189=true:=by kernel_rfl
def rS:BD prog 121=true:=by kernel_rfl
def qM:BD prog 225=true:=by kernel_rfl
def qO:BD prog 224=true:=by kernel_rfl
def qS:BD prog 194=true:=by kernel_rfl
def mZ:FM prog 194=some [.int .i64 0,.int .i64 0,.int .i64 0,.nilFunc]:=by kernel_rfl
def W4:BD prog 124=true:=by kernel_rfl
def rP:BD prog 125=true:=by kernel_rfl
def wL:BD prog 62=true:=by kernel_rfl
def Rc:BD prog 11=true:=by kernel_rfl
def mO:BD prog 18=true:=by kernel_rfl
def YF:BD prog 16=true:=by kernel_rfl
def eI:BD prog 15=true:=by kernel_rfl
def xB:BD prog 24=true:=by kernel_rfl
def Pe:BD prog 12=true:=by kernel_rfl
def WI:BD prog 13=true:=by kernel_rfl
def wU:BD prog 47=true:=by kernel_rfl
def dY:BD prog 20=true:=by kernel_rfl
def zE:BD prog 8=true:=by kernel_rfl
def zD:BD prog 9=true:=by kernel_rfl
def xC:BD prog 10=true:=by kernel_rfl
instance iS:Gk Tryz.prog 31 3 3:=⟨by kernel_rfl⟩
instance iR:Gk Tryz.prog 31 4 4:=⟨by kernel_rfl⟩
instance iU:Gk Tryz.prog 31 1 1:=⟨by kernel_rfl⟩
instance Uk:Gk Tryz.prog 36 1 1:=⟨by kernel_rfl⟩
instance V5:Gk Tryz.prog 133 5 5:=⟨by kernel_rfl⟩
instance Ul:Gk Tryz.prog 31 0 0:=⟨by kernel_rfl⟩
instance iT:Gk Tryz.prog 31 2 2:=⟨by kernel_rfl⟩
instance iQ:Gk Tryz.prog 31 5 5:=⟨by kernel_rfl⟩
instance iP:Gk Tryz.prog 31 6 6:=⟨by kernel_rfl⟩
instance iO:Gk Tryz.prog 31 7 7:=⟨by kernel_rfl⟩
instance iN:Gk Tryz.prog 31 8 8:=⟨by kernel_rfl⟩
instance X8:Gk Tryz.prog 31 9 9:=⟨by kernel_rfl⟩
instance cY:Gk Tryz.prog 31 10 10:=⟨by kernel_rfl⟩
instance:Gk Tryz.prog 133 0 0:=⟨by kernel_rfl⟩
instance:Gk Tryz.prog 139 0 0:=⟨by kernel_rfl⟩
instance:Gk Tryz.prog 215 0 0:=⟨by kernel_rfl⟩
instance:Gk Tryz.prog 224 0 0:=⟨by kernel_rfl⟩
instance:Gk Tryz.prog 218 0 0:=⟨by kernel_rfl⟩
instance:Gk Tryz.prog 221 0 0:=⟨by kernel_rfl⟩
instance:Gk Tryz.prog 129 0 0:=⟨by kernel_rfl⟩
instance:Gk Tryz.prog 129 1 1:=⟨by kernel_rfl⟩
instance:Gk Tryz.prog 133 1 1:=⟨by kernel_rfl⟩
instance:Gk Tryz.prog 133 2 2:=⟨by kernel_rfl⟩
instance:Gk Tryz.prog 133 9 9:=⟨by kernel_rfl⟩
instance:Gk Tryz.prog 133 3 3:=⟨by kernel_rfl⟩
instance:Gk Tryz.prog 133 10 10:=⟨by kernel_rfl⟩
instance V6:Gk Tryz.prog 133 4 4:=⟨by kernel_rfl⟩
instance:Gk Tryz.prog 133 6 6:=⟨by kernel_rfl⟩
instance:Gk Tryz.prog 133 7 7:=⟨by kernel_rfl⟩
instance:Gk Tryz.prog 133 8 8:=⟨by kernel_rfl⟩
instance UA:Gk Tryz.prog 133 11 11:=⟨by kernel_rfl⟩
instance:Gk Tryz.prog 210 0 0:=⟨by kernel_rfl⟩
instance:Gk Tryz.prog 210 1 1:=⟨by kernel_rfl⟩
instance:Gk Tryz.prog 139 1 1:=⟨by kernel_rfl⟩
instance V2:Gk Tryz.prog 139 4 4:=⟨by kernel_rfl⟩
instance Qd:Gk Tryz.prog 139 5 5:=⟨by kernel_rfl⟩
instance V4:Gk Tryz.prog 137 0 0:=⟨by kernel_rfl⟩
instance V3:Gk Tryz.prog 137 1 1:=⟨by kernel_rfl⟩
instance:Gk Tryz.prog 139 6 7:=⟨by kernel_rfl⟩
instance:Gk Tryz.prog 139 7 8:=⟨by kernel_rfl⟩
instance:Gk Tryz.prog 139 8 9:=⟨by kernel_rfl⟩
instance:Gk Tryz.prog 139 14 15:=⟨by kernel_rfl⟩
instance:Gk Tryz.prog 139 15 16:=⟨by kernel_rfl⟩
instance:Gk Tryz.prog 139 3 3:=⟨by kernel_rfl⟩
instance:Gk Tryz.prog 139 9 10:=⟨by kernel_rfl⟩
instance:Gk Tryz.prog 139 10 11:=⟨by kernel_rfl⟩
instance:Gk Tryz.prog 139 11 12:=⟨by kernel_rfl⟩
instance:Gk Tryz.prog 139 12 13:=⟨by kernel_rfl⟩
instance:Gk Tryz.prog 139 13 14:=⟨by kernel_rfl⟩
instance:Gk Tryz.prog 139 2 2:=⟨by kernel_rfl⟩
instance:Gk Tryz.prog 139 16 17:=⟨by kernel_rfl⟩
instance:Gk Tryz.prog 215 1 1:=⟨by kernel_rfl⟩
instance:Gk Tryz.prog 215 2 2:=⟨by kernel_rfl⟩
instance:Gk Tryz.prog 215 3 3:=⟨by kernel_rfl⟩
instance:Gk Tryz.prog 215 4 4:=⟨by kernel_rfl⟩
instance:Gk Tryz.prog 215 5 5:=⟨by kernel_rfl⟩
instance:Gk Tryz.prog 215 6 6:=⟨by kernel_rfl⟩
instance:Gk Tryz.prog 224 1 1:=⟨by kernel_rfl⟩
instance:Gk Tryz.prog 218 1 1:=⟨by kernel_rfl⟩
instance:Gk Tryz.prog 218 3 3:=⟨by kernel_rfl⟩
instance:Gk Tryz.prog 218 4 4:=⟨by kernel_rfl⟩
instance:Gk Tryz.prog 218 2 2:=⟨by kernel_rfl⟩
instance:Gk Tryz.prog 221 1 1:=⟨by kernel_rfl⟩
instance:Gk Tryz.prog 221 2 2:=⟨by kernel_rfl⟩
instance:Gk Tryz.prog 221 3 3:=⟨by kernel_rfl⟩
instance:Gk Tryz.prog 221 4 4:=⟨by kernel_rfl⟩
instance:Gk Tryz.prog 221 6 6:=⟨by kernel_rfl⟩
instance:Gk Tryz.prog 221 5 5:=⟨by kernel_rfl⟩
instance X7:Gk Tryz.prog 36 0 0:=⟨by kernel_rfl⟩
instance:Gk Tryz.prog 36 2 2:=⟨by kernel_rfl⟩
instance:Gk Tryz.prog 36 4 4:=⟨by kernel_rfl⟩
instance:Gk Tryz.prog 36 5 5:=⟨by kernel_rfl⟩
instance:Gk Tryz.prog 36 6 6:=⟨by kernel_rfl⟩
instance:Gk Tryz.prog 107 0 0:=⟨by kernel_rfl⟩
instance:Gk Tryz.prog 107 1 1:=⟨by kernel_rfl⟩
instance:Gk Tryz.prog 107 3 3:=⟨by kernel_rfl⟩
instance:Gk Tryz.prog 36 3 3:=⟨by kernel_rfl⟩
instance:Gk Tryz.prog 103 0 0:=⟨by kernel_rfl⟩
instance:Gk Tryz.prog 103 1 1:=⟨by kernel_rfl⟩
instance V7:Gk Tryz.prog 103 2 2:=⟨by kernel_rfl⟩
instance Kf:Gk Tryz.prog 91 1 11:=⟨by kernel_rfl⟩
instance R7:Gk Tryz.prog 91 2 12:=⟨by kernel_rfl⟩
instance iM:Gk Tryz.prog 91 0 0:=⟨by kernel_rfl⟩
instance X5:Gk Tryz.prog 93 0 0:=⟨by kernel_rfl⟩
instance iL:Gk Tryz.prog 93 1 1:=⟨by kernel_rfl⟩
instance Uj:Gk Tryz.prog 93 2 6:=⟨by kernel_rfl⟩
instance Qc:Gk Tryz.prog 93 3 13:=⟨by kernel_rfl⟩
instance:Gk Tryz.prog 145 0 0:=⟨by kernel_rfl⟩
instance:Gk Tryz.prog 145 1 1:=⟨by kernel_rfl⟩
instance:Gk Tryz.prog 150 0 0:=⟨by kernel_rfl⟩
instance:Gk Tryz.prog 150 1 1:=⟨by kernel_rfl⟩
instance:Gk Tryz.prog 155 0 0:=⟨by kernel_rfl⟩
instance:Gk Tryz.prog 155 1 1:=⟨by kernel_rfl⟩
instance:Gk Tryz.prog 160 0 0:=⟨by kernel_rfl⟩
instance:Gk Tryz.prog 160 1 1:=⟨by kernel_rfl⟩
instance:Gk Tryz.prog 165 0 0:=⟨by kernel_rfl⟩
instance:Gk Tryz.prog 165 1 1:=⟨by kernel_rfl⟩
instance:Gk Tryz.prog 50 0 0:=⟨by kernel_rfl⟩
instance:Gk Tryz.prog 50 1 1:=⟨by kernel_rfl⟩
instance:Gk Tryz.prog 50 2 2:=⟨by kernel_rfl⟩
instance:Gk Tryz.prog 50 3 3:=⟨by kernel_rfl⟩
instance:Gk Tryz.prog 50 4 4:=⟨by kernel_rfl⟩
instance:Gk Tryz.prog 112 1 11:=⟨by kernel_rfl⟩
instance:Gk Tryz.prog 107 2 2:=⟨by kernel_rfl⟩
instance:Gk Tryz.prog 148 1 1:=⟨by kernel_rfl⟩
instance:Gk Tryz.prog 112 0 0:=⟨by kernel_rfl⟩
instance dB:Gk Tryz.prog 112 2 16:=⟨by kernel_rfl⟩
instance:Gk Tryz.prog 148 0 0:=⟨by kernel_rfl⟩
instance:Gk Tryz.prog 153 0 0:=⟨by kernel_rfl⟩
instance:Gk Tryz.prog 153 1 1:=⟨by kernel_rfl⟩
instance:Gk Tryz.prog 163 0 0:=⟨by kernel_rfl⟩
instance:Gk Tryz.prog 163 1 1:=⟨by kernel_rfl⟩
instance:Gk Tryz.prog 163 2 2:=⟨by kernel_rfl⟩
instance:Gk Tryz.prog 163 3 3:=⟨by kernel_rfl⟩
instance dA:Gk Tryz.prog 112 3 23:=⟨by kernel_rfl⟩
instance cZ:Gk Tryz.prog 112 4 24:=⟨by kernel_rfl⟩
instance:Gk Tryz.prog 158 1 1:=⟨by kernel_rfl⟩
instance:Gk Tryz.prog 158 2 2:=⟨by kernel_rfl⟩
instance:Gk Tryz.prog 158 0 0:=⟨by kernel_rfl⟩
instance:Gk Tryz.prog 158 3 3:=⟨by kernel_rfl⟩
instance:Gk Tryz.prog 194 3 3:=⟨by kernel_rfl⟩
instance:Gk Tryz.prog 194 0 0:=⟨by kernel_rfl⟩
instance:Gk Tryz.prog 194 2 2:=⟨by kernel_rfl⟩
instance:Gk Tryz.prog 112 5 25:=⟨by kernel_rfl⟩
instance:Gk Tryz.prog 194 1 1:=⟨by kernel_rfl⟩
instance X6:Gk Tryz.prog 52 3 3:=⟨by kernel_rfl⟩
instance:Gk Tryz.prog 52 4 8:=⟨by kernel_rfl⟩
instance Mx:TF Tryz.prog 23 133 12:=⟨by kernel_rfl⟩
instance N2:TF Tryz.prog 24 139 18:=⟨by kernel_rfl⟩
instance lO:TF Tryz.prog 22 9 1:=⟨by kernel_rfl⟩
instance Jl:TF Tryz.prog 32 29 1:=⟨by kernel_rfl⟩
instance bA:TF Tryz.prog 25 215 7:=⟨by kernel_rfl⟩
instance aZ:TF Tryz.prog 26 218 5:=⟨by kernel_rfl⟩
instance aY:TF Tryz.prog 27 221 7:=⟨by kernel_rfl⟩
instance aX:TF Tryz.prog 28 224 2:=⟨by kernel_rfl⟩
instance CQ:TF Tryz.prog 29 3 1:=⟨by kernel_rfl⟩
instance K0:TF Tryz.prog 130 129 2:=⟨by kernel_rfl⟩
instance oK:TF Tryz.prog 131 210 2:=⟨by kernel_rfl⟩
instance oJ:TF Tryz.prog 264 130 1:=⟨by kernel_rfl⟩
instance Pb:TF Tryz.prog 34 107 4:=⟨by kernel_rfl⟩
instance QI:TF Tryz.prog 33 103 3:=⟨by kernel_rfl⟩
instance aW:TF Tryz.prog 45 148 2:=⟨by kernel_rfl⟩
instance aV:TF Tryz.prog 46 153 2:=⟨by kernel_rfl⟩
instance aU:TF Tryz.prog 47 158 4:=⟨by kernel_rfl⟩
instance aT:TF Tryz.prog 48 163 4:=⟨by kernel_rfl⟩
instance bB:TF Tryz.prog 248 190 1:=⟨by kernel_rfl⟩
instance Pq:TF Tryz.prog 190 194 4:=⟨by kernel_rfl⟩
instance Lo:TF Tryz.prog 37 52 9:=⟨by kernel_rfl⟩
instance NL:Re Tryz.prog 31 11:=⟨by kernel_rfl⟩
instance lH:Fc (KQ Tryz.prog 23 1 false=true):=⟨by kernel_rfl⟩
instance lG:Fc (KQ Tryz.prog 24 1 false=true):=⟨by kernel_rfl⟩
instance lI:Fc (KQ Tryz.prog 22 1 false=true):=⟨by kernel_rfl⟩
instance J0:Re Tryz.prog 36 7:=⟨by kernel_rfl⟩
instance Po:Re Tryz.prog 133 12:=⟨by kernel_rfl⟩
instance VS:Fc (KQ Tryz.prog 32 1 false=true):=⟨by kernel_rfl⟩
instance GD:Fc (KQ Tryz.prog 29 1 false=true):=⟨by kernel_rfl⟩
instance nK:Fc (KQ Tryz.prog 9 1 false=true):=⟨by kernel_rfl⟩
instance FE:Fc (KQ Tryz.prog 3 1 false=true):=⟨by kernel_rfl⟩
instance lF:Fc (KQ Tryz.prog 25 1 false=true):=⟨by kernel_rfl⟩
instance lE:Fc (KQ Tryz.prog 26 1 false=true):=⟨by kernel_rfl⟩
instance lD:Fc (KQ Tryz.prog 27 1 false=true):=⟨by kernel_rfl⟩
instance lC:Fc (KQ Tryz.prog 28 1 false=true):=⟨by kernel_rfl⟩
instance nN:Fc (KQ Tryz.prog 225 1 false=true):=⟨by kernel_rfl⟩
instance Wc:Fc (KQ Tryz.prog 4 1 false=true):=⟨by kernel_rfl⟩
instance nL:Re Tryz.prog 261 2:=⟨by kernel_rfl⟩
instance OM:Re Tryz.prog 139 18:=⟨by kernel_rfl⟩
instance Z9:Re Tryz.prog 215 7:=⟨by kernel_rfl⟩
instance Z6:Re Tryz.prog 224 2:=⟨by kernel_rfl⟩
instance Z8:Re Tryz.prog 218 5:=⟨by kernel_rfl⟩
instance Z7:Re Tryz.prog 221 7:=⟨by kernel_rfl⟩
instance UN:Re Tryz.prog 129 2:=⟨by kernel_rfl⟩
instance OP:Fc (KQ Tryz.prog 130 1 false=true):=⟨by kernel_rfl⟩
instance aB:Fc (KQ Tryz.prog 131 1 false=true):=⟨by kernel_rfl⟩
instance nO:Re Tryz.prog 210 2:=⟨by kernel_rfl⟩
instance nM:Re Tryz.prog 232 3:=⟨by kernel_rfl⟩
instance lB:Fc (KQ Tryz.prog 34 1 false=true):=⟨by kernel_rfl⟩
instance Ip:Re Tryz.prog 107 4:=⟨by kernel_rfl⟩
instance XZ:Fc (KQ Tryz.prog 33 1 false=true):=⟨by kernel_rfl⟩
instance We:Re Tryz.prog 103 3:=⟨by kernel_rfl⟩
instance Kz:Fc (KQ Tryz.prog 89 1 false=true):=⟨by kernel_rfl⟩
instance NK:Re Tryz.prog 50 5:=⟨by kernel_rfl⟩
instance nT:Re Tryz.prog 148 2:=⟨by kernel_rfl⟩
instance:Fc (KQ Tryz.prog 45 1 false=true):=⟨by kernel_rfl⟩
instance nS:Re Tryz.prog 153 2:=⟨by kernel_rfl⟩
instance:Fc (KQ Tryz.prog 46 1 false=true):=⟨by kernel_rfl⟩
instance nR:Re Tryz.prog 158 4:=⟨by kernel_rfl⟩
instance:Fc (KQ Tryz.prog 47 1 false=true):=⟨by kernel_rfl⟩
instance nQ:Re Tryz.prog 163 4:=⟨by kernel_rfl⟩
instance:Fc (KQ Tryz.prog 48 1 false=true):=⟨by kernel_rfl⟩
instance nU:Re Tryz.prog 112 26:=⟨by kernel_rfl⟩
instance Z5:Fc (KQ Tryz.prog 71 1 false=true):=⟨by kernel_rfl⟩
instance:Fc (KQ Tryz.prog 190 1 false=true):=⟨by kernel_rfl⟩
instance nP:Fc (KQ Tryz.prog 192 1 false=true):=⟨by kernel_rfl⟩
instance aA:Re Tryz.prog 194 4:=⟨by kernel_rfl⟩
instance:KM CA 0 AB (·.P):=⟨XG⟩
instance:KM CA 1 AB (·.X):=⟨TN⟩
instance:KM BY 2 AB (·.At):=⟨N5⟩
instance:KM BY 4 (A5.sl CA) (·.Bj):=⟨O8⟩
instance:KM BY 5 (A5.sl AB) (·.An):=⟨O7⟩
instance:KM BY 6 AB (·.Y):=⟨Ca.f_Num⟩
instance:KM BY 7 AB (·.S):=⟨Ca.f_Den⟩
instance:KM BY 11 (A5.sl Jt) (·.T):=⟨Ca.f_Rain⟩
instance:KM Kp 0 (A5.sl CA) (·.Av):=⟨N0⟩
instance:KM Kp 1 (A5.sl CA) (·.Aw):=⟨N1⟩
instance:KM B8 1 AB (·.F):=⟨A8.f_Kind⟩
instance:KM B8 3 AB (·.E):=⟨A8.f_To⟩
instance:KM B8 4 (A5.sl CA) (·.As):=⟨KL⟩
instance:KM B8 5 Kp (·.Ad):=⟨IE⟩
instance:KM B8 7 AB (·.V):=⟨GV⟩
instance:KM B8 8 AB (·.Ag):=⟨Ke⟩
instance:KM B8 9 AB (·.Bb):=⟨Nz⟩
instance:KM B8 10 AB (·.Bc):=⟨NF⟩
instance:KM B8 11 AB (·.Y):=⟨A8.f_Num⟩
instance:KM B8 12 AB (·.S):=⟨A8.f_Den⟩
instance:KM B8 13 AB (·.Ay):=⟨Ph⟩
instance:KM B8 14 AB (·.Az):=⟨Pi⟩
instance:KM B8 15 AB (·.Aq):=⟨Jq⟩
instance:KM B8 16 AB (·.Al):=⟨Jr⟩
instance:KM BZ 0 A5.str (·.D):=⟨AF.f_Name⟩
instance:KM BZ 1 (A5.sl A5.str) (·.H):=⟨H0⟩
instance:KM BZ 2 AB (·.J):=⟨Mu⟩
instance:KM BZ 3 (A5.sl BY) (·.A):=⟨Ce⟩
instance:KM BZ 4 (A5.sl B8) (·.C):=⟨HG⟩
instance:KM BZ 5 (A5.sl G7) (·.Af):=⟨KC⟩
instance:KM BZ 6 (A5.sl Eg) (·.Ah):=⟨Ki⟩
instance:KM BZ 7 (A5.sl Gr) (·.Ai):=⟨LM⟩
instance:KM BZ 8 (A5.sl DM) (·.Ak):=⟨Jy⟩
instance:KM BZ 9 (A5.sl AB) (·.Aj):=⟨AF.f_Room⟩
instance:KM BZ 10 AB (·.K):=⟨AF.f_Err⟩
instance:KM AX 2 (A5.sl AB) (·.W):=⟨AV.f_Part⟩
instance:KM BQ 0 AB (·.Z):=⟨Rg⟩
instance:KM BQ 3 A5.bool (·.Am):=⟨VG⟩
instance:KM B3 0 AB (·.B):=⟨AN.f_Hour⟩
instance:KM B3 1 (A5.sl (A5.sl AB)) (·.G):=⟨Qo⟩
instance:KM B3 2 (A5.sl AB) (·.N):=⟨Ny⟩
instance:KM B3 3 (A5.sl AX) (·.I):=⟨O5⟩
instance:KM B3 4 (A5.sl BQ) (·.R):=⟨O6⟩
instance:KM B3 5 (A5.sl AB) (·.L):=⟨AN.f_In⟩
instance:KM B3 6 (A5.sl AB) (·.O):=⟨Qp⟩
instance:KM DE 1 AB (·.Bh):=⟨Pg⟩
instance:KM DE 2 AB (·.Bd):=⟨E4.f_Litres⟩
instance:KM CZ 0 (A5.sl AB) (·.T):=⟨By.f_Rain⟩
instance:KM CZ 1 (A5.sl Cm) (·.Ab):=⟨Kh⟩
instance:KM CZ 2 (A5.sl FD) (·.Ac):=⟨Lh⟩
instance:KM CZ 3 (A5.sl DE) (·.U):=⟨LH⟩
instance:KM CZ 4 (A5.sl Da) (·.Ae):=⟨LI⟩
instance:KM EK 0 (A5.sl AB) (·.a):=⟨DC.f_a⟩
instance:KM EK 1 (A5.sl AB) (·.b):=⟨DC.f_b⟩
instance:KM Kb 0 (A5.sl Cm) (·.a):=⟨Jj.f_a⟩
instance:KM Kb 1 (A5.sl Cm) (·.b):=⟨Jj.f_b⟩
instance:KM NA 0 (A5.sl FD) (·.a):=⟨Mt.f_a⟩
instance:KM NA 1 (A5.sl FD) (·.b):=⟨Mt.f_b⟩
instance:KM Lf 0 (A5.sl DE) (·.a):=⟨Kr.f_a⟩
instance:KM Lf 1 (A5.sl DE) (·.b):=⟨Kr.f_b⟩
instance:KM Lg 0 (A5.sl Da) (·.a):=⟨Ks.f_a⟩
instance:KM Lg 1 (A5.sl Da) (·.b):=⟨Ks.f_b⟩
instance:KM AW 0 AB (·.to_):=⟨LZ⟩
instance:KM AW 1 AB (·.delay):=⟨Ms⟩
instance:KM AW 2 AB (·.way):=⟨Nb⟩
instance:KM AW 3 (A5.fnr Tryz.prog (λS h vs (x:(List Int))=>∃w0:Value,vs=[w0]∧Sl S h AB w0 x) (λS h v (y:((List Int)×(List Int)))=>∃w0 w1:Value,v= .tuple #[w0,w1]∧Sl S h AB w0 y.1∧Sl S h AB w1 y.2)) (·.take):=⟨M2⟩
instance:KM DL 3 CZ (·.L):=⟨BJ.f_In⟩
instance:KM DL 8 (A5.sl AB) (·.Bl):=⟨NE⟩
end Go.Proofs.YtabonambpbofgaaGreat
