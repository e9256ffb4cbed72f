import Derived.Test.YtabonambpbofgaaGreatKCore14
import Derived.Test.YtabonambpbofgaaGreatKCore18
import Derived.Test.YtabonambpbofgaaGreatKCore26
import Derived.Test.YtabonambpbofgaaGreatKSortD
import Derived.Test.YtabonambpbofgaaGreatKReps
import Derived.Test.YtabonambpbofgaaGreatRows
namespace Go.Proofs.YtabonambpbofgaaGreat
set_option linter.all false
open Go.RowKit
def zJ {a:Type}(f:a→HP):HP where
 holds:=λS F h=>∃i,(f i).holds S F h
 loc:=λ⟨i,k⟩ s e=>⟨i,(f i).loc k s e⟩
def uL {α}(r:A7 α) (cs:List Value) (x:α):HP where
 holds:=λS F h=>r.rd S h cs x∧∀b,¬F b
 loc:=λ⟨a,c⟩ s e=>⟨r.mono a s λb d=>e b (.inl d),c⟩
section
variable {S:Nat→Prop}{L:List HP}{h:AS}
def St.exO {g:Type}{f:g→HP}(a:St S (zJ f::L) h):∃i,St S (f i::L) h:=by
 obtain⟨b,F,⟨i,k⟩,c,d⟩:=a;exact⟨i,b,F,k,c,d⟩
def fX {g:Type}{f:g→HP}(i:g) (a:St S (f i::L) h):St S (zJ f::L) h:=by
 obtain⟨b,F,k,c,d⟩:=a;exact⟨b,F,⟨i,k⟩,c,d⟩
def XT {α}{r:A7 α}{cs:List Value}{x:α}(a:St S (uL r cs x::L) h):r.rd S h cs x∧St S L h:=by
 obtain⟨F,k,_⟩:=a.get (Ab8 ..);exact⟨k.1,a.drop .head⟩
def TR {α}{r:A7 α}{cs:List Value}{x:α}(a:St S L h) (k:r.rd S h cs x):St S (uL r cs x::L) h:=
 (a.add (H':=uL r cs x) (Ab1 _) (λ_ _=>rfl) ⟨λ_=>False,⟨k,λ_ x=>x⟩,λ_ x=>x.elim⟩).1
end
structure Dv where
 par:Int
 inp:B3
 st:AI
 kids:List Int
structure Ey where
 bas:AF
 vs:List (Int×Dv)
 cr:Int
instance:Inhabited Ey:=⟨⟨default,[],0⟩⟩
def vO:Option Nat→Value
 |none=> .pointer none
 |some b=> .pointer (some ⟨b,0,none⟩)
def VB (T E b:Nat) (x:Dv):HP:=zJ λp:(List Value×List Value)×Value=>Pq [Pu (AA x.par),uL Cf p.1.1 x.inp,uL BO p.1.2 x.st,Bx b T (.int .i64 x.par::(p.1.1++(p.1.2++[p.2]))),OS AB E p.2 x.kids]
def L8 (T E:Nat) (f:Int→Nat) (vs:List (Int×Dv)):List HP:=vs.map λe=>VB T E (f e.1) e.2
def N0 (f:Int→Nat) (vs:List (Int×Dv)):List (Int×Option Nat):=vs.map λe=>(e.1,some (f e.1))
def Ny (TT T E:Nat) (v:Value):Option Ey→HP
 |none=>Pu (v= .pointer none)
 |some t=>zJ λp:(Nat×Nat)×(Int→Nat)×List Value=>Pq (Pu (v= .pointer (some ⟨p.1.1,0,none⟩)∧AA t.cr∧(t.vs.map (·.1)).Nodup)::uL B5 p.2.2 t.bas::Bx p.1.1 TT (p.2.2++[.map (some p.1.2),.int .i64 t.cr])::MP (Value.int .i64) vO p.1.2 (N0 p.2.1 t.vs)::L8 T E p.2.1 t.vs)
section
variable {S:Nat→Prop}{L:List HP}{h:AS}{TT T E b bm:Nat}{x:Dv}{t:Ey}{v:Value}
def St.vbO (a:St S (VB T E b x::L) h):∃c cs d,AA x.par∧Cf.rd S h c x.inp∧BO.rd S h cs x.st∧St S (Bx b T (.int .i64 x.par::(c++(cs++[d])))::OS AB E d x.kids::L) h:=by
 obtain⟨⟨⟨c,cs⟩,d⟩,a⟩:=a.exO;have a:=a.unpack;obtain⟨g,a⟩:=nV a;obtain⟨i,a⟩:=XT a;obtain⟨j,a⟩:=XT a;exact⟨c,cs,d,g,i,j,a⟩
def tI {a cs:List Value}{c:Value}(d:AA x.par) (g:Cf.rd S h a x.inp) (i:BO.rd S h cs x.st) (j:St S (Bx b T (.int .i64 x.par::(a++(cs++[c])))::OS AB E c x.kids::L) h):St S (VB T E b x::L) h:=
 fX ((a,cs),c) (Yh (L1:=[_,_,_,_,_]) (VG (TR (TR j i) g) d))
def St.trO (a:St S (Ny TT T E v (some t)::L) h):∃b bm f c,v= .pointer (some ⟨b,0,none⟩)∧AA t.cr∧(t.vs.map (·.1)).Nodup∧B5.rd S h c t.bas∧St S (Bx b TT (c++[.map (some bm),.int .i64 t.cr])::MP (Value.int .i64) vO bm (N0 f t.vs)::(L8 T E f t.vs++L)) h:=by
 obtain⟨⟨⟨b,bm⟩,f,c⟩,a⟩:=St.exO a;have a:=St.unpack a;obtain⟨⟨d,g,i⟩,a⟩:=nV a;obtain⟨j,a⟩:=XT a;exact⟨b,bm,f,c,d,g,i,j,a⟩
def tK {f:Int→Nat}{a:List Value}(c:v= .pointer (some ⟨b,0,none⟩)) (d:AA t.cr) (g:(t.vs.map (·.1)).Nodup) (i:B5.rd S h a t.bas) (j:St S (Bx b TT (a++[.map (some bm),.int .i64 t.cr])::MP (Value.int .i64) vO bm (N0 f t.vs)::(L8 T E f t.vs++L)) h):St S (Ny TT T E v (some t)::L) h:=
 by
 have:=Yh (L1:=_::_::_::_::L8 T E f t.vs) (VG (p:=v= .pointer (some ⟨b,0,none⟩)∧AA t.cr∧(t.vs.map (·.1)).Nodup) (TR j i) ⟨c,d,g⟩);unfold Ny;exact fX ((b,bm),f,a) this
def fW (a:St S L h):St S (Ny TT T E (.pointer none) none::L) h:=VG a rfl
end
def Cc (vs:List (Int×Dv)) (i:Int):Option Dv:=(vs.find? λe=>decide (e.1=i)).map (·.2)
def Mv {vs:List (Int×Dv)}{i:Int}{x:Dv}(h:Cc vs i=some x):∃p q,vs=p++(i,x)::q∧∀e∈p,e.1≠i:=by
 unfold Cc at h;obtain⟨e,b,rfl⟩:=Ac0.1 h;obtain⟨c,p,q,d,g⟩:=List.find?_eq_some_iff_append.1 b;have:e.1=i:=Ac9 c;subst this;exact⟨p,q,d,λa j=>by have:=g a j;simpa using this⟩
section
variable {S:Nat→Prop}{L K:List HP}{h:AS}{T E:Nat}{f:Int→Nat}{p q:List (Int×Dv)}{i:Int}{x y:Dv}
def QU:L8 T E f (p++q)=L8 T E f p++L8 T E f q:=by simp [L8]
def Vi:L8 T E f ((i,x)::q)=VB T E (f i) x::L8 T E f q:=rfl
def OD (a:St S (K++(L8 T E f (p++(i,x)::q)++L)) h):St S (VB T E (f i) x::(K++(L8 T E f p++(L8 T E f q++L)))) h:=by
 rw[QU,Vi,Acu,Abx,←Acu] at a;have:=a.unmid;rwa [Acu] at this
def SQ (a:St S (VB T E (f i) x::(K++(L8 T E f p++(L8 T E f q++L)))) h):St S (K++(L8 T E f (p++(i,x)::q)++L)) h:=by
 rw[QU,Vi,Acu,Abx,←Acu];rw[←Acu] at a;exact a.mid
end
def Qm {d:Type}{k:Int}:∀{m:List (Int×d)},Li (Value.int .i64) m k=(m.find? λe=>decide (e.1=k)).map (·.2)
 |[]=>rfl
 |e::m=>by
  have a:=Qm (k:=k) (m:=m);unfold Li at a ⊢;rw[Aeb,Aeb];by_cases h:e.1=k
  ·subst h;simp [K3,Vc]
  ·have c:K3 (Value.int .i64 k) (Value.int .i64 e.1)=false:=by
    cases b:K3 (Value.int .i64 k) (Value.int .i64 e.1) with
    |false=>rfl
    |true=>simp [K3,Vc] at b;exact absurd b.symm h
   rw[c,Abs h];exact a
def Xi {f:Int→Nat}{vs:List (Int×Dv)}{i:Int}:Li (Value.int .i64) (N0 f vs) i=(Cc vs i).map λ_=>some (f i):=by
 rw[Qm];unfold N0 Cc;rw[List.find?_map];cases h:vs.find? λe=>decide (e.1=i) with
 |none=>simp [Function.comp_def,h]
 |some e=>
  have:e.1=i:=by simpa using List.find?_some h
  simp [Function.comp_def,h,this]
def Wk {P:Program}{c:Array Oper}{C:World→Prop}{Q:Act→Prop}{n:FN}{m:SM}{a:List Oper}{d:Nat}{ty:TypeId}{g:String}{u:Array Edge}{X Y:Operand}{S:Nat→Prop}{L:List HP}{h:AS}{TT T E:Nat}{v:Value}{o:Option Ey}{t t2 i:TypeId}(w:St S L h) (x:Ny TT T E v o∈L) (j:B9 m X=some v) (l:B9 m Y=some (.pointer none)) (p:P.underlying t=some (.pointer i)) (y:((P.info? i).map (·.size)).isSome=true) (hd:Nat.blt d n.1=true) (k:QF P c C Q a n ((d,.bool o.isNone)::m)):
  QF P c C Q (⟨some d,.binOp .eql t X Y t2,ty,g,u,none⟩::a) n m:=by
 obtain⟨k0,q⟩:=Ad1.1 y;obtain⟨F,s,_⟩:=w.get x;cases o with
 |none=>
  obtain rfl:v= .pointer none:=s.1;exact SR j l p q hd k
 |some t=>
  obtain⟨⟨⟨b,bm⟩,f,A⟩,B,⟨⟨z,_⟩,_⟩,_⟩:=s;subst z;exact SR j l p q hd k
section
variable {P:Program}{ops:Array Oper}{C:World→Prop}{Q:Act→Prop}{n:FN}{m:SM}{rest:List Oper}
variable {d:Nat}{ty:TypeId}{pos:String}{af:Array Edge}{X Y:Operand}{t:TypeId}{S:Nat→Prop}{L:List HP}{h:AS}{b:Nat}
def Ys {κ β:Type}{kv:κ→Value}{vv:β→Value}{l:List (κ×β)}{kt et:TypeId}(j:CK C h) (o:St S L h) (p:MP kv vv b l∈L) (q:B9 m X=some (.map (some b))) (s:P.underlying t=some (.map kt et)) (hd:Nat.blt d n.1=true) (k:QF P ops C Q rest n ((d,.int .i64 (l.length:Int))::m)):
  QF P ops C Q (⟨some d,.call ⟨.builtin .len,#[X],#[t]⟩,ty,pos,af,none⟩::rest) n m:=λa i=>by
 refine F7 i hd (λw u=>?_) k;obtain⟨F,⟨v,es,c,x,y,_⟩,g⟩:=o.get p;have z:w.heap[b]? =some (.map es c):=(j w u b (g b ((v b).2 rfl)).1).trans x;have A:es.size=l.length:=by
  have:=Abp List.length y;simpa using this
 simp [execOp,resolve,invoke,builtin,Builtin.len_,i.eval q,run_underlying s,MapKept.run_getObj_map z,goInt,A]
end
section
variable {P:Program}{ops:Array Oper}{Q:Exit→Act→World→Prop}{n:FN}{m:SM}{rest:List Oper}{B:World}
variable {ty:TypeId}{pos:String}{af:Array Edge}{X Y Z:Operand}{t:TypeId}{S:Nat→Prop}{L L2:List HP}{h:AS}{b:Nat}
variable {κ β:Type}{kv:κ→Value}{vv:β→Value}{l:List (κ×β)}{k0:κ}{x:β}{kt et:TypeId}
def uE (hs:St S L h) (rp:Mj L (MP kv vv b l) (MP kv vv b (OU kv l k0 x)) L2) (hx:B9 m X=some (.map (some b))) (hy:B9 m Y=some (kv k0)) (hz:B9 m Z=some (vv x)) (hT:P.underlying t=some (.map kt et)) (G:NC P kt kv)
  (k:∀h',St S L2 h'→C2 S h S h'→LF P ops Q rest B h' n m):LF P ops Q (⟨none,.insert t X Y Z,ty,pos,af,none⟩::rest) B h n m:=by
 intro a w q u;refine wpList_plain rfl λK v=>?_;unfold Oper.wp;obtain⟨M,p,_⟩:=rp.pick;obtain⟨F,⟨g1,es,c,g2,H,g4⟩,hF,_⟩:=Sp.pick p hs.2;have y:w.heap[b]? =some (.map es c):=by rw[u.heap];exact g2
 have I:=G.find k0 es.toList w (Qu H);have z:∀(o:Obj) (h0:w.heap=h),(∀c',c'≠b→(w.heap.setIfInBounds b o)[c']? =h[c']?)∧(w.heap.setIfInBounds b o)[b]? =some o∧(w.heap.setIfInBounds b o).size=h.size:=λo h0=>by
  have J:b<w.heap.size:=(Acl.1 y).1;refine⟨λc' A=>by rw[Ae4 (Ne.symm A),h0],?_,by simp [h0]⟩;rw[Array.getElem?_setIfInBounds_self];simp [J]
 have C:∀(d:Array MapEntry) (c':Nat),d.toList.map (λe=>(e.key,e.val))=(OU kv l k0 x).map (λe=>(kv e.1,vv e.2))→Nf d.toList c'→wpList P ops Q rest a { w with heap:=w.heap.setIfInBounds b (.map d c')}:=λd c' he U=>by
  obtain⟨s1,s2,s3⟩:=z (.map d c') u.heap;have V:Wd B (w.heap.setIfInBounds b (.map d c')) { w with heap:=w.heap.setIfInBounds b (.map d c')}:=⟨rfl,u.os,u.tape,u.out⟩
  obtain⟨u1,u2⟩:=hs.upd (h':=w.heap.setIfInBounds b (.map d c')) rp (by omega) λF k1 k2=>⟨F,⟨k1.1,d,c',s2,he,U⟩,λc A=> .inl A,λc _ A=>s1 c λe=>A ((k1.1 c).2 e)⟩
  exact k _ u1 u2 a _ q V
 cases i:UH (K3 (kv k0)) es.toList 0 with
 |none=>
  rw[i] at I;have g:(execOp a.eval ⟨none,.insert t X Y Z,ty,pos,af,none⟩).run P w= .ok .skip { w with heap:=w.heap.setIfInBounds b (.map (es.push { key:=kv k0,val:=vv x,born:=c}) (c+1))}:=by
   simp [execOp,q.eval hx,q.eval hy,q.eval hz,Instr.mapUpdate,run_underlying hT,MapKept.run_getObj_map y,G.chk,I,MapKept.run_setObj_map _ y]
  rw[g];refine v _ _ (C _ _ ?_ (by rw[Array.toList_push];exact g4.push _ rfl));rw[TH k0 0 x H i];simp [H]
 |some r=>
  obtain⟨j,r2⟩:=r;rw[i] at I;obtain⟨_,q2,⟨W,q3,q4⟩,q5⟩:=TG k0 (vv x) 0 j r2 x H i;have D:((es[j]?).map (·.key)).getD (kv k0)=kv W:=by
   have:(es[j]?).map (·.key)=some (kv W):=by simpa using q3
   simp [this]
  have s:(Instr.keyThatStays (kv W) (kv k0)).run P w= .ok (kv k0) w:=by simp [Instr.keyThatStays,G.same _ _ q4]
  have g:(execOp a.eval ⟨none,.insert t X Y Z,ty,pos,af,none⟩).run P w= .ok .skip { w with heap:=w.heap.setIfInBounds b (.map (es.modify j λe=>{ e with key:=kv k0,val:=vv x}) c)}:=by
   simp [execOp,q.eval hx,q.eval hy,q.eval hz,Instr.mapUpdate,run_underlying hT,MapKept.run_getObj_map y,G.chk,I,D,s,MapKept.run_setObj_map _ y]
  rw[g];refine v _ _ (C _ _ ?_ (by rw[Array.toList_modify];exact g4.of (Rk _ _ _ λ_=>rfl)));simpa using q5
end
section
variable {P:Program}{ex:List (Nat×AP)}{RR N:AP}{cs:List Code}{B:World}{h:AS}{n:FN}{m:SM}{C:World→Prop}{l:List Oper}{fuel:Nat}{listed:Array Bool}{d:Nat}{ty:TypeId}{pos:String}{af:Array Edge}{a:Act}{w:World}
def cC {T:TypeId}{b:Array (Nat×Operand)}{pl z pv}{cs:List Value}(o:Fr n a m) (q:Sh P T=some (pl,z)) (c:b.toList.mapM (Zv m)=some pv) (k:Mg pl z pv=some cs):(execOp a.eval ⟨some d,.build T b,ty,pos,af,none⟩).run P w= .ok (.value (.agg cs.toArray)) w:=by
 have i:(b.map λ(p:Nat×Operand)=>(p.1,a.eval p.2)).toList=pv:=by
  obtain⟨l⟩:=b;simp only at c;simp only[List.map_toArray];clear k
  induction l generalizing pv with
  |nil=>simp at c;subst c;rfl
  |cons x l s=>
   simp only[Ad6,Ael,Ado,Zv,Ac0] at c;obtain⟨y,⟨v,t,rfl⟩,u,j,g⟩:=c;simp only[Aem,Acm] at g;subst g;simp only[Ab9,o.eval t,s j]
 have:=run_build (P:=P) w T (b.map λ(p:Nat×Operand)=>(p.1,a.eval p.2)) cs.toArray (by rw[i];exact We q k);simp only[execOp,Sem.run_bind,this];rfl
def uG (i:Nat) {T:TypeId}{b:Array (Nat×Operand)}{pl z pv}{vs:List Value}(g:l[i]? =some ⟨some d,.build T b,ty,pos,af,none⟩) (c:hJ l listed i=true) (j:∀w,Wd B h w→C w) (o:Sh P T=some (pl,z)) (p:b.toList.mapM (Zv m)=some pv) (q:Mg pl z pv=some vs) (hd:Nat.blt d n.1=true) (k:HF P l (QW P ex RR cs N) C fuel (listed.setIfInBounds i true) B h n ((d,.agg vs.toArray)::m)):HF P l (QW P ex RR cs N) C (fuel+1) listed B h n m:=
 PO i g c j hd (λa w s _=>cC s o p q) k
end
def hE:B3:=⟨[],[],[],[],[]⟩
def qP {S:Nat→Prop}{h:AS}:Rd S h Cf (.agg #[.slice none 0 0,.slice none 0 0,.slice none 0 0,.slice none 0 0,.slice none 0 0]) hE:=
 Cf.mk (x:=hE) (.inl ⟨rfl,rfl⟩) (.inl ⟨rfl,rfl⟩) (.inl ⟨rfl,rfl⟩) (.inl ⟨rfl,rfl⟩) (.inl ⟨rfl,rfl⟩)
def St.trX {S:Nat→Prop}{L:List HP}{h:AS}{TT T E:Nat}{v:Value}{t:Ey}(n:St S (Ny TT T E v (some t)::L) h):∃b m f v1 a c d g i j l,v= .pointer (some ⟨b,0,none⟩)∧AA t.cr∧(t.vs.map (·.1)).Nodup∧Rd S h B5 (.agg #[.string t.bas.E,v1,.int .i64 t.bas.J,a,c,d,g,i,j,l,.int .i64 t.bas.K]) t.bas∧St S (Bx b TT [.string t.bas.E,v1,.int .i64 t.bas.J,a,c,d,g,i,j,l,.int .i64 t.bas.K,.map (some m),.int .i64 t.cr]::MP (Value.int .i64) vO m (N0 f t.vs)::(L8 T E f t.vs++L)) h:=by
 obtain⟨b,m,f,u,o,p,q,s,n⟩:=n.trO;obtain⟨v1,a,c,d,g,i,j,l,rfl,k⟩:=s;exact⟨b,m,f,v1,a,c,d,g,i,j,l,o,p,q,⟨_,rfl,v1,a,c,d,g,i,j,l,rfl,k⟩,n⟩
def PK {S:Nat→Prop}{L:List HP}{h:AS}{TT T E b m:Nat}{t:Ey}{f:Int→Nat}{v1 a c d g i j l:Value}(n:AA t.cr) (o:(t.vs.map (·.1)).Nodup) (p:Rd S h B5 (.agg #[.string t.bas.E,v1,.int .i64 t.bas.J,a,c,d,g,i,j,l,.int .i64 t.bas.K]) t.bas) (q:St S (Bx b TT [.string t.bas.E,v1,.int .i64 t.bas.J,a,c,d,g,i,j,l,.int .i64 t.bas.K,.map (some m),.int .i64 t.cr]::MP (Value.int .i64) vO m (N0 f t.vs)::(L8 T E f t.vs++L)) h):St S (Ny TT T E (.pointer (some ⟨b,0,none⟩)) (some t)::L) h:=by
 obtain⟨cs,e,k⟩:=p;obtain rfl:cs=[.string t.bas.E,v1,.int .i64 t.bas.J,a,c,d,g,i,j,l,.int .i64 t.bas.K]:=by
  have:Value.agg #[.string t.bas.E,v1,.int .i64 t.bas.J,a,c,d,g,i,j,l,.int .i64 t.bas.K]= .agg cs.toArray:=e;have:=Abp Array.toList (Value.agg.inj this);simpa using this.symm
 exact tK rfl n o k q
def St.vbX {S:Nat→Prop}{L:List HP}{h:AS}{T E b:Nat}{x:Dv}(t:St S (VB T E b x::L) h):∃a c d g i l m n o p q s,AA x.par∧Rd S h Cf (.agg #[a,c,d,g,i]) x.inp∧AA x.st.B∧Rd S h BO (.agg #[.int .i64 x.st.B,l,m,n,o,p,q]) x.st∧St S (Bx b T [.int .i64 x.par,a,c,d,g,i,.int .i64 x.st.B,l,m,n,o,p,q,s]::OS AB E s x.kids::L) h:=by
 obtain⟨y,cs,s,u,v,w,t⟩:=t.vbO;obtain⟨a,c,d,g,i,rfl,k⟩:=v;obtain⟨l,m,n,o,p,q,rfl,j⟩:=w;exact⟨a,c,d,g,i,l,m,n,o,p,q,s,u,⟨_,rfl,a,c,d,g,i,rfl,k⟩,j.1,⟨_,rfl,l,m,n,o,p,q,rfl,j⟩,t⟩
def RY {S:Nat→Prop}{L:List HP}{h:AS}{T E b:Nat}{x:Dv}{a c d g i l m n o p q s:Value}(u:AA x.par) (v:Rd S h Cf (.agg #[a,c,d,g,i]) x.inp) (w:Rd S h BO (.agg #[.int .i64 x.st.B,l,m,n,o,p,q]) x.st) (y:St S (Bx b T [.int .i64 x.par,a,c,d,g,i,.int .i64 x.st.B,l,m,n,o,p,q,s]::OS AB E s x.kids::L) h):St S (VB T E b x::L) h:=by
 obtain⟨t,e,k⟩:=v;obtain⟨cs,z,j⟩:=w;obtain rfl:t=[a,c,d,g,i]:=by
  have:Value.agg #[a,c,d,g,i]= .agg t.toArray:=e;have:=Abp Array.toList (Value.agg.inj this);simpa using this.symm
 obtain rfl:cs=[.int .i64 x.st.B,l,m,n,o,p,q]:=by
  have:Value.agg #[.int .i64 x.st.B,l,m,n,o,p,q]= .agg cs.toArray:=z;have:=Abp Array.toList (Value.agg.inj this);simpa using this.symm
 exact tI u k j y
def Nz {f:Int→Nat}{vs:List (Int×Dv)}{i:Int}:(if true=true then Value.tuple #[vO ((Li (Value.int .i64) (N0 f vs) i).getD none),.bool (Li (Value.int .i64) (N0 f vs) i).isSome] else vO ((Li (Value.int .i64) (N0 f vs) i).getD none))= .tuple #[vO ((Cc vs i).map λ_=>f i),.bool (Cc vs i).isSome]:=by
 rw[Xi];cases Cc vs i<;>rfl
def Z7 {f:Int→Nat}{vs:List (Int×Dv)}{i:Int}:(if false=true then Value.tuple #[vO ((Li (Value.int .i64) (N0 f vs) i).getD none),.bool (Li (Value.int .i64) (N0 f vs) i).isSome] else vO ((Li (Value.int .i64) (N0 f vs) i).getD none))=vO ((Cc vs i).map λ_=>f i):=by
 rw[Xi];cases Cc vs i<;>rfl
def Xh {f:Int→Nat}{vs:List (Int×Dv)}:(N0 f vs).length=vs.length:=by simp [N0]
def st0:AI:=⟨0,[],[],[],[],[],[]⟩
def pP {S:Nat→Prop}{h:AS}:Rd S h BO (.agg #[.int .i64 0,.slice none 0 0,.slice none 0 0,.slice none 0 0,.slice none 0 0,.slice none 0 0,.slice none 0 0]) st0:=
 BO.mk (x:=st0) ⟨by decide,by decide⟩ (.inl ⟨rfl,rfl⟩) (.inl ⟨rfl,rfl⟩) (.inl ⟨rfl,rfl⟩) (.inl ⟨rfl,rfl⟩) (.inl ⟨rfl,rfl⟩) (.inl ⟨rfl,rfl⟩)
def tJ {S:Nat→Prop}{L:List HP}{h:AS}{H:HP}{TT T E b a:Nat}{t:Ey}{f:Int→Nat}{v1 c d g i j k l:Value}(m:AA t.cr) (n:(t.vs.map (·.1)).Nodup) (o:Rd S h B5 (.agg #[.string t.bas.E,v1,.int .i64 t.bas.J,c,d,g,i,j,k,l,.int .i64 t.bas.K]) t.bas) (p:St S (H::Bx b TT [.string t.bas.E,v1,.int .i64 t.bas.J,c,d,g,i,j,k,l,.int .i64 t.bas.K,.map (some a),.int .i64 t.cr]::MP (Value.int .i64) vO a (N0 f t.vs)::(L8 T E f t.vs++L)) h):St S (H::Ny TT T E (.pointer (some ⟨b,0,none⟩)) (some t)::L) h:=by
 have q:=St.mid (M:=Bx b TT [.string t.bas.E,v1,.int .i64 t.bas.J,c,d,g,i,j,k,l,.int .i64 t.bas.K,.map (some a),.int .i64 t.cr]::MP (Value.int .i64) vO a (N0 f t.vs)::L8 T E f t.vs) p;exact(PK m n o q).pick (.tail .head)
def Lm (vs:List (Int×Dv)) (ks:List Int):List (Int×Dv):=ks.filterMap λi=>(Cc vs i).map λx=>(i,{ x with kids:=x.kids.filter λk=>ks.contains k})
def NK (vs:List (Int×Dv)) (p:Int) (x:Dv):List (Int×Dv):=vs.map λe=>if e.1=p then (p,x) else e
def Y9 {P Q:List (Int×Dv)}{p:Int}{x y:Dv}(c:((P++(p,x)::Q).map (·.1)).Nodup):NK (P++(p,x)::Q) p y=P++(p,y)::Q:=by
 rw[Adb,Ab9,Aer] at c;obtain⟨_,a,d⟩:=c;have a:=Aed.1 a;have g:P.map (λe=>if e.1=p then (p,y) else e)=P:=by
  conv=>rhs;rw[←List.map_id P]
  refine Aeh λe b=>?_;rw[Abl λh=>d e.1 (Ach.2 ⟨e,b,rfl⟩) p (by simp) h];rfl
 have i:Q.map (λe=>if e.1=p then (p,y) else e)=Q:=by
  conv=>rhs;rw[←List.map_id Q]
  refine Aeh λe b=>?_;rw[Abl λh=>a.1 (Ach.2 ⟨e,b,h⟩)];rfl
 unfold NK;rw[Adb,Ab9,Abm rfl,g,i]
def ZA {P Q:List (Int×Dv)}{p k:Int}{x y:Dv}(a:k≠p) (h:Cc (P++(p,x)::Q) k=some y):Cc (P++Q) k=some y:=by
 unfold Cc at h ⊢;rw[Aeu,Aeb,Abs (λe=>a e.symm)] at h;rw[Aeu];exact h
def iG {f:Int→Nat}{vs:List (Int×Dv)}{c:Int}{b:Nat}{x:Dv}(a:Cc vs c=none):OU (Value.int .i64) (N0 f vs) c (some b)=N0 (λi=>if i=c then b else f i) (vs++[(c,x)]):=by
 induction vs with
 |nil=>simp [N0,OU]
 |cons e vs d=>
  unfold Cc at a d;rw[Aeb] at a;by_cases h:e.1=c
  ·rw[Ab3 h] at a;cases a
  ·rw[Abs h] at a;have d:=d a;have j:K3 (Value.int .i64 c) (Value.int .i64 e.1)=false:=by
    cases g:K3 (Value.int .i64 c) (Value.int .i64 e.1) with
    |false=>rfl
    |true=>simp [K3,Vc] at g;exact absurd g.symm h
   simp only[N0,Ab9,OU,j,Abx,Abl h,Adj,Adk] at d ⊢;rw[d]
def Xj {T E:Nat}{f:Int→Nat}{vs:List (Int×Dv)}{c:Int}{b:Nat}(a:∀e∈vs,e.1≠c):L8 T E (λi=>if i=c then b else f i) vs=L8 T E f vs:=by
 unfold L8;exact Aeh λe d=>by show VB T E (if e.1=c then b else f e.1) e.2=_;rw[Abl (a e d)]
def iF {f:Int→Nat}{P Q:List (Int×Dv)}{p:Int}{x y:Dv}:N0 f (P++(p,x)::Q)=N0 f (P++(p,y)::Q):=by simp [N0]
def ZC {vs:List (Int×Dv)}{c:Int}(h:Cc vs c=none):∀e∈vs,e.1≠c:=λe a b=>by
 unfold Cc at h;have:=List.find?_eq_none.1 (Option.map_eq_none_iff.1 h) e a;simp [b] at this
open Go.Proofs.Tryz
def Z0:Fh prog 31=some [.string ByteArray.empty,.slice none 0 0,.int .i64 0,.slice none 0 0,.slice none 0 0,.slice none 0 0,.slice none 0 0,.slice none 0 0,.slice none 0 0,.slice none 0 0,.int .i64 0]:=by kernel_rfl
def eI:NR prog 22=some (9,1,16,[.string ByteArray.empty]):=by kernel_rfl
def pN:Sh prog 129=some ([(0,1),(1,1)],[.int .i64 0,.int .i64 0]):=by kernel_rfl
def XI:NR prog 130=some (129,2,16,[.int .i64 0,.int .i64 0]):=by kernel_rfl
def JU:NR prog 29=some (3,1,8,[.int .i64 0]):=by kernel_rfl
def pM:Sh prog 133=some ([(0,1),(1,1),(2,1),(3,1),(4,1),(5,1),(6,1),(7,1),(8,1),(9,1),(10,1),(11,1)],[.string ByteArray.empty,.int .i64 0,.int .i64 0,.int .i64 0,.slice none 0 0,.slice none 0 0,.int .i64 0,.int .i64 0,.int .i64 0,.int .i64 0,.int .i64 0,.slice none 0 0]):=by kernel_rfl
def eH:NR prog 23=some (133,12,152,[.string ByteArray.empty,.int .i64 0,.int .i64 0,.int .i64 0,.slice none 0 0,.slice none 0 0,.int .i64 0,.int .i64 0,.int .i64 0,.int .i64 0,.int .i64 0,.slice none 0 0]):=by kernel_rfl
def vD:Sh prog 31=some ([(0,1),(1,1),(2,1),(3,1),(4,1),(5,1),(6,1),(7,1),(8,1),(9,1),(10,1)],[.string ByteArray.empty,.slice none 0 0,.int .i64 0,.slice none 0 0,.slice none 0 0,.slice none 0 0,.slice none 0 0,.slice none 0 0,.slice none 0 0,.slice none 0 0,.int .i64 0]):=by kernel_rfl
def yG:BH prog 34=true:=by kernel_rfl
def Ng:Fh prog 36=some [.int .i64 0,.slice none 0 0,.slice none 0 0,.slice none 0 0,.slice none 0 0,.slice none 0 0,.slice none 0 0]:=by kernel_rfl
def mo:prog.follows .mixedOrders=true:=by kernel_rfl
def mN:Sh prog 36=some ([(0,1),(1,1),(2,1),(3,1),(4,1),(5,1),(6,1)],[.int .i64 0,.slice none 0 0,.slice none 0 0,.slice none 0 0,.slice none 0 0,.slice none 0 0,.slice none 0 0]):=by kernel_rfl
def WV:NR prog 32=some (29,1,24,[.slice none 0 0]):=by kernel_rfl
def eG:NR prog 34=some (107,4,24,[.int .i64 0,.int .i64 0,.bool false,.bool false]):=by kernel_rfl
def aF:∃e,prog.underlying 29=some (.slice e):=⟨3,by kernel_rfl⟩
def P5:Fh prog 133=some [.string ByteArray.empty,.int .i64 0,.int .i64 0,.int .i64 0,.slice none 0 0,.slice none 0 0,.int .i64 0,.int .i64 0,.int .i64 0,.int .i64 0,.int .i64 0,.slice none 0 0]:=by kernel_rfl
def M8:BH prog 73=true:=by kernel_rfl
def Tf:prog.underlying 9=some .string:=by kernel_rfl
def Hu:BH prog 143=true:=by kernel_rfl
def J7:BH prog 144=true:=by kernel_rfl
def oD:Fh prog 225=some [.map none]:=by kernel_rfl
def zL:Fh prog 4=some [.bool false]:=by kernel_rfl
def pG:Sh prog 261=some ([(0,1),(1,1)],[.string ByteArray.empty,.string ByteArray.empty]):=by kernel_rfl
def oA:Fh prog 261=some [.string ByteArray.empty,.string ByteArray.empty]:=by kernel_rfl
def rV:BH prog 200=true:=by kernel_rfl
def aO:prog.underlying 225=some (.map 261 4):=by kernel_rfl
def qS:dR prog 261=some [3,3]:=by kernel_rfl
def YE:NC prog 261 (λk:AG=>Value.agg (AG.v k).toArray):=NC.agg (f:=AG.v) underlying261 qS (λk=>rfl) (λa b=>rfl) (λk e w=>by kernel_rfl) (λa b c=>by
 simp only[AG.v,Qt,Vc,Abq,U9,Ab6,beq_iff_eq] at c;simp [AG.v,c]) (λa=>by simp [Instr.sameBits,AG.v,U9.2])
def zK:∀w,(zeroValue 4).run prog w= .ok (.bool false) w:=λw=>by kernel_rfl
def sJ:BH prog 146=true:=by kernel_rfl
def QN:BH prog 145=true:=by kernel_rfl
def Og:Fh prog 139=some [.string ByteArray.empty,.int .i64 0,.int .i64 0,.int .i64 0,.slice none 0 0,.slice none 0 0,.slice none 0 0,.int .i64 0,.int .i64 0,.int .i64 0,.int .i64 0,.int .i64 0,.int .i64 0,.int .i64 0,.int .i64 0,.int .i64 0,.int .i64 0,.int .i64 0]:=by kernel_rfl
def Z4:Fh prog 215=some [.string ByteArray.empty,.int .i64 0,.int .i64 0,.int .i64 0,.int .i64 0,.int .i64 0,.int .i64 0]:=by kernel_rfl
def Z1:Fh prog 224=some [.string ByteArray.empty,.int .i64 0]:=by kernel_rfl
def Z3:Fh prog 218=some [.string ByteArray.empty,.int .i64 0,.int .i64 0,.int .i64 0,.int .i64 0]:=by kernel_rfl
def Z2:Fh prog 221=some [.string ByteArray.empty,.int .i64 0,.int .i64 0,.int .i64 0,.int .i64 0,.int .i64 0,.int .i64 0]:=by kernel_rfl
def UZ:Fh prog 129=some [.int .i64 0,.int .i64 0]:=by kernel_rfl
def QL:BH prog 150=true:=by kernel_rfl
def QM:BH prog 147=true:=by kernel_rfl
def XN:BH prog 148=true:=by kernel_rfl
def fK:BH prog 149=true:=by kernel_rfl
def oE:Fh prog 210=some [.int .i64 0,.int .i64 0]:=by kernel_rfl
def Q9:prog.underlying 3=some (.int .i64):=by kernel_rfl
def Ww:prog.underlying 244=some (.int .u64):=by kernel_rfl
def rK:BH prog 242=true:=by kernel_rfl
def rL:BH prog 241=true:=by kernel_rfl
def NV:prog.underlying 125=some (.int .u64):=by kernel_rfl
def fD:BH prog 202=true:=by kernel_rfl
def uZ:prog.underlying 5=some (.int .u8):=by kernel_rfl
def rJ:BH prog 243=true:=by kernel_rfl
def rP:BH prog 228=true:=by kernel_rfl
def fC:BH prog 203=true:=by kernel_rfl
def TL:BH prog 195=true:=by kernel_rfl
def XM:BH prog 227=true:=by kernel_rfl
def fE:BH prog 201=true:=by kernel_rfl
def sI:BH prog 151=true:=by kernel_rfl
def sH:BH prog 152=true:=by kernel_rfl
def fJ:BH prog 153=true:=by kernel_rfl
def RQ:BH prog 154=true:=by kernel_rfl
def rA:NR prog 264=some (130,1,24,[.slice none 0 0]):=by kernel_rfl
def sG:BH prog 155=true:=by kernel_rfl
def tH:zC prog 232=some ([(0,1),(1,1),(2,1)],[.int .i64 0,.int .i64 0,.int .i64 0]):=by kernel_rfl
def oC:Fh prog 232=some [.int .i64 0,.int .i64 0,.int .i64 0]:=by kernel_rfl
def tF:Aak prog 232 3 1=true:=by kernel_rfl
def xN:BH prog 74=true:=by kernel_rfl
def xM:BH prog 75=true:=by kernel_rfl
def xL:BH prog 76=true:=by kernel_rfl
def xK:BH prog 77=true:=by kernel_rfl
def xJ:BH prog 78=true:=by kernel_rfl
def xI:BH prog 79=true:=by kernel_rfl
def xH:BH prog 80=true:=by kernel_rfl
def xG:BH prog 81=true:=by kernel_rfl
def xF:BH prog 82=true:=by kernel_rfl
def SS:Fh prog 107=some [.int .i64 0,.int .i64 0,.bool false,.bool false]:=by kernel_rfl
def fA:BH prog 204=true:=by kernel_rfl
def Wb:BH prog 63=true:=by kernel_rfl
def fI:BH prog 156=true:=by kernel_rfl
def Pz:BH prog 31=true:=by kernel_rfl
def ST:Fh prog 103=some [.int .i64 0,.int .i64 0,.slice none 0 0]:=by kernel_rfl
def O5:BH prog 113=true:=by kernel_rfl
def xE:BH prog 83=true:=by kernel_rfl
def nL:BH prog 84=true:=by kernel_rfl
def aE:∃e,prog.underlying 32=some (.slice e):=⟨29,by kernel_rfl⟩
def sT:BH prog 132=true:=by kernel_rfl
def aD:∃e,prog.underlying 33=some (.slice e):=⟨103,by kernel_rfl⟩
def Rq:NR prog 33=some (103,3,40,[.int .i64 0,.int .i64 0,.slice none 0 0]):=by kernel_rfl
def sS:BH prog 133=true:=by kernel_rfl
def aC:∃e,prog.underlying 34=some (.slice e):=⟨107,by kernel_rfl⟩
def fL:BH prog 112=true:=by kernel_rfl
def aM:∃e,prog.underlying 22=some (.slice e):=⟨9,by kernel_rfl⟩
def sR:BH prog 134=true:=by kernel_rfl
def aL:∃e,prog.underlying 23=some (.slice e):=⟨133,by kernel_rfl⟩
def sQ:BH prog 135=true:=by kernel_rfl
def Xo:∃e,prog.underlying 130=some (.slice e):=⟨129,by kernel_rfl⟩
def Xn:∃e,prog.underlying 131=some (.slice e):=⟨210,by kernel_rfl⟩
def eJ:NR prog 131=some (210,2,16,[.int .i64 0,.int .i64 0]):=by kernel_rfl
def U7:BH prog 136=true:=by kernel_rfl
def sP:BH prog 137=true:=by kernel_rfl
def aK:∃e,prog.underlying 24=some (.slice e):=⟨139,by kernel_rfl⟩
def nJ:NR prog 24=some (139,18,200,[.string ByteArray.empty,.int .i64 0,.int .i64 0,.int .i64 0,.slice none 0 0,.slice none 0 0,.slice none 0 0,.int .i64 0,.int .i64 0,.int .i64 0,.int .i64 0,.int .i64 0,.int .i64 0,.int .i64 0,.int .i64 0,.int .i64 0,.int .i64 0,.int .i64 0]):=by kernel_rfl
def sO:BH prog 138=true:=by kernel_rfl
def aJ:∃e,prog.underlying 25=some (.slice e):=⟨215,by kernel_rfl⟩
def nI:NR prog 25=some (215,7,64,[.string ByteArray.empty,.int .i64 0,.int .i64 0,.int .i64 0,.int .i64 0,.int .i64 0,.int .i64 0]):=by kernel_rfl
def sN:BH prog 139=true:=by kernel_rfl
def aI:∃e,prog.underlying 26=some (.slice e):=⟨218,by kernel_rfl⟩
def nH:NR prog 26=some (218,5,48,[.string ByteArray.empty,.int .i64 0,.int .i64 0,.int .i64 0,.int .i64 0]):=by kernel_rfl
def sM:BH prog 140=true:=by kernel_rfl
def aH:∃e,prog.underlying 27=some (.slice e):=⟨221,by kernel_rfl⟩
def nG:NR prog 27=some (221,7,64,[.string ByteArray.empty,.int .i64 0,.int .i64 0,.int .i64 0,.int .i64 0,.int .i64 0,.int .i64 0]):=by kernel_rfl
def sL:BH prog 141=true:=by kernel_rfl
def aG:∃e,prog.underlying 28=some (.slice e):=⟨224,by kernel_rfl⟩
def nF:NR prog 28=some (224,2,24,[.string ByteArray.empty,.int .i64 0]):=by kernel_rfl
def sK:BH prog 142=true:=by kernel_rfl
def mM:Sh prog 93=some ([(0,1),(1,5),(6,7),(13,1)],[.int .i64 0,.slice none 0 0,.slice none 0 0,.slice none 0 0,.slice none 0 0,.slice none 0 0,.int .i64 0,.slice none 0 0,.slice none 0 0,.slice none 0 0,.slice none 0 0,.slice none 0 0,.slice none 0 0,.slice none 0 0]):=by kernel_rfl
def vC:Sh prog 91=some ([(0,11),(11,1),(12,1)],[.string ByteArray.empty,.slice none 0 0,.int .i64 0,.slice none 0 0,.slice none 0 0,.slice none 0 0,.slice none 0 0,.slice none 0 0,.slice none 0 0,.slice none 0 0,.int .i64 0,.map none,.int .i64 0]):=by kernel_rfl
def nO:BH prog 37=true:=by kernel_rfl
def nN:BH prog 38=true:=by kernel_rfl
def xP:BH prog 71=true:=by kernel_rfl
def xO:BH prog 72=true:=by kernel_rfl
def yD:BH prog 40=true:=by kernel_rfl
def yE:BH prog 39=true:=by kernel_rfl
def nQ:BH prog 28=true:=by kernel_rfl
def yC:BH prog 41=true:=by kernel_rfl
def MC:prog.underlying 89=some (.map 3 87):=by kernel_rfl
def NQ:NC prog 3 (Value.int .i64):=NC.int (by kernel_rfl) (λs e w=>by kernel_rfl)
def NU:∀w,(zeroValue 87).run prog w= .ok (vO none) w:=λw=>by kernel_rfl
def Zz:Fh prog 50=some [.slice none 0 0,.slice none 0 0,.slice none 0 0,.slice none 0 0,.slice none 0 0]:=by kernel_rfl
def nM:BH prog 55=true:=by kernel_rfl
def xW:BH prog 54=true:=by kernel_rfl
def fM:BH prog 111=true:=by kernel_rfl
def mB:prog.underlying 87=some (.pointer 93):=by kernel_rfl
def dG:((prog.info? 93).map (·.size)).isSome=true:=by kernel_rfl
def oQ:prog.underlying 29=some (.slice 3):=by kernel_rfl
def uO:∀w,(zeroValue 3).run prog w= .ok (.int .i64 0) w:=λw=>by kernel_rfl
def uP:Fh prog 89=some [.map none]:=by kernel_rfl
def yF:BH prog 36=true:=by kernel_rfl
def nP:BH prog 35=true:=by kernel_rfl
def mC:prog.underlying 40=some (.pointer 91):=by kernel_rfl
def dH:((prog.info? 91).map (·.size)).isSome=true:=by kernel_rfl
def Rg:Sh prog 50=some ([(0,1),(1,1),(2,1),(3,1),(4,1)],[.slice none 0 0,.slice none 0 0,.slice none 0 0,.slice none 0 0,.slice none 0 0]):=by kernel_rfl
def UQ:BH prog 49=true:=by kernel_rfl
def qW:dR prog 148=some [1,1]:=by kernel_rfl
def sF:BH prog 157=true:=by kernel_rfl
def qV:dR prog 153=some [1,1]:=by kernel_rfl
def sE:BH prog 158=true:=by kernel_rfl
def qU:dR prog 158=some [1,1,1,1]:=by kernel_rfl
def sD:BH prog 159=true:=by kernel_rfl
def qT:dR prog 163=some [1,1,1,1]:=by kernel_rfl
def sC:BH prog 160=true:=by kernel_rfl
def pL:Sh prog 145=some ([(0,1),(1,1)],[.slice none 0 0,.slice none 0 0]):=by kernel_rfl
def xD:BH prog 85=true:=by kernel_rfl
def pK:Sh prog 150=some ([(0,1),(1,1)],[.slice none 0 0,.slice none 0 0]):=by kernel_rfl
def xC:BH prog 86=true:=by kernel_rfl
def pJ:Sh prog 155=some ([(0,1),(1,1)],[.slice none 0 0,.slice none 0 0]):=by kernel_rfl
def xB:BH prog 87=true:=by kernel_rfl
def pI:Sh prog 160=some ([(0,1),(1,1)],[.slice none 0 0,.slice none 0 0]):=by kernel_rfl
def xA:BH prog 88=true:=by kernel_rfl
def pH:Sh prog 165=some ([(0,1),(1,1)],[.slice none 0 0,.slice none 0 0]):=by kernel_rfl
def wZ:BH prog 89=true:=by kernel_rfl
def aB:∃e,prog.underlying 45=some (.slice e):=⟨148,by kernel_rfl⟩
def nE:NR prog 45=some (148,2,16,[.int .i64 0,.int .i64 0]):=by kernel_rfl
def aA:∃e,prog.underlying 46=some (.slice e):=⟨153,by kernel_rfl⟩
def nD:NR prog 46=some (153,2,16,[.int .i64 0,.int .i64 0]):=by kernel_rfl
def Z9:∃e,prog.underlying 47=some (.slice e):=⟨158,by kernel_rfl⟩
def nC:NR prog 47=some (158,4,32,[.int .i64 0,.int .i64 0,.int .i64 0,.int .i64 0]):=by kernel_rfl
def Z8:∃e,prog.underlying 48=some (.slice e):=⟨163,by kernel_rfl⟩
def nB:NR prog 48=some (163,4,32,[.int .i64 0,.int .i64 0,.int .i64 0,.int .i64 0]):=by kernel_rfl
def wY:BH prog 90=true:=by kernel_rfl
def wX:BH prog 91=true:=by kernel_rfl
def wW:BH prog 92=true:=by kernel_rfl
def wV:BH prog 93=true:=by kernel_rfl
def xV:BH prog 57=true:=by kernel_rfl
def pO:Sh prog 112=some ([(0,11),(11,5),(16,7),(23,1),(24,1),(25,1)],[.string ByteArray.empty,.slice none 0 0,.int .i64 0,.slice none 0 0,.slice none 0 0,.slice none 0 0,.slice none 0 0,.slice none 0 0,.slice none 0 0,.slice none 0 0,.int .i64 0,.slice none 0 0,.slice none 0 0,.slice none 0 0,.slice none 0 0,.slice none 0 0,.int .i64 0,.slice none 0 0,.slice none 0 0,.slice none 0 0,.slice none 0 0,.slice none 0 0,.slice none 0 0,.slice none 0 0,.slice none 0 0,.slice none 0 0]):=by kernel_rfl
def oL:Fh prog 112=some [.string ByteArray.empty,.slice none 0 0,.int .i64 0,.slice none 0 0,.slice none 0 0,.slice none 0 0,.slice none 0 0,.slice none 0 0,.slice none 0 0,.slice none 0 0,.int .i64 0,.slice none 0 0,.slice none 0 0,.slice none 0 0,.slice none 0 0,.slice none 0 0,.int .i64 0,.slice none 0 0,.slice none 0 0,.slice none 0 0,.slice none 0 0,.slice none 0 0,.slice none 0 0,.slice none 0 0,.slice none 0 0,.slice none 0 0]:=by kernel_rfl
def oK:Fh prog 148=some [.int .i64 0,.int .i64 0]:=by kernel_rfl
def tD:BH prog 114=true:=by kernel_rfl
def YV:BH prog 14=true:=by kernel_rfl
def oJ:Fh prog 153=some [.int .i64 0,.int .i64 0]:=by kernel_rfl
def tC:BH prog 115=true:=by kernel_rfl
def TM:BH prog 187=true:=by kernel_rfl
def tB:BH prog 116=true:=by kernel_rfl
def xU:BH prog 58=true:=by kernel_rfl
def fH:BH prog 188=true:=by kernel_rfl
def oG:Fh prog 163=some [.int .i64 0,.int .i64 0,.int .i64 0,.int .i64 0]:=by kernel_rfl
def tA:BH prog 117=true:=by kernel_rfl
def xT:BH prog 59=true:=by kernel_rfl
def bK:Sh prog 116=some ([(0,1),(1,1),(2,1),(3,1),(4,1)],[.int .i64 0,.int .i64 0,.int .i64 0,.int .i64 0,.slice none 0 0]):=by kernel_rfl
def YR:NR prog 71=some (116,5,56,[.int .i64 0,.int .i64 0,.int .i64 0,.int .i64 0,.slice none 0 0]):=by kernel_rfl
def xS:BH prog 60=true:=by kernel_rfl
def XP:BH prog 119=true:=by kernel_rfl
def bM:Sh prog 103=some ([(0,1),(1,1),(2,1)],[.int .i64 0,.int .i64 0,.slice none 0 0]):=by kernel_rfl
def sZ:BH prog 118=true:=by kernel_rfl
def sY:BH prog 120=true:=by kernel_rfl
def xR:BH prog 61=true:=by kernel_rfl
def eZ:BH prog 221=true:=by kernel_rfl
def rZ:BH prog 191=true:=by kernel_rfl
def oH:Fh prog 158=some [.int .i64 0,.int .i64 0,.int .i64 0,.int .i64 0]:=by kernel_rfl
def RG:Sh prog 194=some ([(0,1),(1,1),(2,1),(3,1)],[.int .i64 0,.int .i64 0,.int .i64 0,.nilFunc]):=by kernel_rfl
def sA:BH prog 190=true:=by kernel_rfl
def NY:NR prog 190=some (194,4,32,[.int .i64 0,.int .i64 0,.int .i64 0,.nilFunc]):=by kernel_rfl
def sW:BH prog 122=true:=by kernel_rfl
def TJ:BH prog 236=true:=by kernel_rfl
def rN:BH prog 238=true:=by kernel_rfl
def rO:BH prog 237=true:=by kernel_rfl
def rU:BH prog 222=true:=by kernel_rfl
def lY:Fh prog 29=some [.slice none 0 0]:=by kernel_rfl
def wM:Aah prog 29=true:=by kernel_rfl
def rM:BH prog 239=true:=by kernel_rfl
def rQ:BH prog 226=true:=by kernel_rfl
def rW:BH prog 197=true:=by kernel_rfl
def eY:BH prog 223=true:=by kernel_rfl
def rY:BH prog 192=true:=by kernel_rfl
def TN:BH prog 126=true:=by kernel_rfl
def TK:BH prog 196=true:=by kernel_rfl
def fG:BH prog 193=true:=by kernel_rfl
def sV:BH prog 123=true:=by kernel_rfl
def rB:NR prog 248=some (190,1,24,[.slice none 0 0]):=by kernel_rfl
def zQ:prog.underlying 3=some (.int .i64):=by kernel_rfl
def sB:BH prog 189=true:=by kernel_rfl
def sX:BH prog 121=true:=by kernel_rfl
def rR:BH prog 225=true:=by kernel_rfl
def rS:BH prog 224=true:=by kernel_rfl
def rX:BH prog 194=true:=by kernel_rfl
def oF:Fh prog 194=some [.int .i64 0,.int .i64 0,.int .i64 0,.nilFunc]:=by kernel_rfl
def XO:BH prog 124=true:=by kernel_rfl
def sU:BH prog 125=true:=by kernel_rfl
def xQ:BH prog 62=true:=by kernel_rfl
def TO:BH prog 11=true:=by kernel_rfl
def Wc:BH prog 18=true:=by kernel_rfl
def YU:BH prog 16=true:=by kernel_rfl
def yH:BH prog 15=true:=by kernel_rfl
def nR:BH prog 24=true:=by kernel_rfl
def UR:BH prog 12=true:=by kernel_rfl
def YW:BH prog 13=true:=by kernel_rfl
def yB:BH prog 47=true:=by kernel_rfl
def fF:BH prog 20=true:=by kernel_rfl
def Aaj:BH prog 8=true:=by kernel_rfl
def Aai:BH prog 9=true:=by kernel_rfl
def yI:BH prog 10=true:=by kernel_rfl
def wR:NR prog 70=some (4,1,1,[.bool false]):=by kernel_rfl
def nA:NR prog 69=some (36,7,152,[.int .i64 0,.slice none 0 0,.slice none 0 0,.slice none 0 0,.slice none 0 0,.slice none 0 0,.slice none 0 0]):=by kernel_rfl
def qX:dR prog 107=some [1,1,2,2]:=by kernel_rfl
def yA:BH prog 48=true:=by kernel_rfl
def xY:BH prog 51=true:=by kernel_rfl
def xZ:BH prog 50=true:=by kernel_rfl
def xX:BH prog 52=true:=by kernel_rfl
def zR:prog.underlying 4=some .bool:=by kernel_rfl
def nS:BH prog 22=true:=by kernel_rfl
instance jV:Gq Tryz.prog 31 3 3:=⟨by kernel_rfl⟩
instance jU:Gq Tryz.prog 31 4 4:=⟨by kernel_rfl⟩
instance jX:Gq Tryz.prog 31 1 1:=⟨by kernel_rfl⟩
instance U0:Gq Tryz.prog 36 1 1:=⟨by kernel_rfl⟩
instance WS:Gq Tryz.prog 133 5 5:=⟨by kernel_rfl⟩
instance U1:Gq Tryz.prog 31 0 0:=⟨by kernel_rfl⟩
instance jW:Gq Tryz.prog 31 2 2:=⟨by kernel_rfl⟩
instance jT:Gq Tryz.prog 31 5 5:=⟨by kernel_rfl⟩
instance jS:Gq Tryz.prog 31 6 6:=⟨by kernel_rfl⟩
instance jR:Gq Tryz.prog 31 7 7:=⟨by kernel_rfl⟩
instance jQ:Gq Tryz.prog 31 8 8:=⟨by kernel_rfl⟩
instance YO:Gq Tryz.prog 31 9 9:=⟨by kernel_rfl⟩
instance dT:Gq Tryz.prog 31 10 10:=⟨by kernel_rfl⟩
instance:Gq Tryz.prog 133 0 0:=⟨by kernel_rfl⟩
instance:Gq Tryz.prog 139 0 0:=⟨by kernel_rfl⟩
instance:Gq Tryz.prog 215 0 0:=⟨by kernel_rfl⟩
instance:Gq Tryz.prog 224 0 0:=⟨by kernel_rfl⟩
instance:Gq Tryz.prog 218 0 0:=⟨by kernel_rfl⟩
instance:Gq Tryz.prog 221 0 0:=⟨by kernel_rfl⟩
instance:Gq Tryz.prog 129 0 0:=⟨by kernel_rfl⟩
instance:Gq Tryz.prog 129 1 1:=⟨by kernel_rfl⟩
instance:Gq Tryz.prog 133 1 1:=⟨by kernel_rfl⟩
instance:Gq Tryz.prog 133 2 2:=⟨by kernel_rfl⟩
instance:Gq Tryz.prog 133 9 9:=⟨by kernel_rfl⟩
instance:Gq Tryz.prog 133 3 3:=⟨by kernel_rfl⟩
instance:Gq Tryz.prog 133 10 10:=⟨by kernel_rfl⟩
instance WT:Gq Tryz.prog 133 4 4:=⟨by kernel_rfl⟩
instance:Gq Tryz.prog 133 6 6:=⟨by kernel_rfl⟩
instance:Gq Tryz.prog 133 7 7:=⟨by kernel_rfl⟩
instance:Gq Tryz.prog 133 8 8:=⟨by kernel_rfl⟩
instance UL:Gq Tryz.prog 133 11 11:=⟨by kernel_rfl⟩
instance:Gq Tryz.prog 210 0 0:=⟨by kernel_rfl⟩
instance:Gq Tryz.prog 210 1 1:=⟨by kernel_rfl⟩
instance:Gq Tryz.prog 139 1 1:=⟨by kernel_rfl⟩
instance WP:Gq Tryz.prog 139 4 4:=⟨by kernel_rfl⟩
instance Qs:Gq Tryz.prog 139 5 5:=⟨by kernel_rfl⟩
instance WR:Gq Tryz.prog 137 0 0:=⟨by kernel_rfl⟩
instance WQ:Gq Tryz.prog 137 1 1:=⟨by kernel_rfl⟩
instance:Gq Tryz.prog 139 6 7:=⟨by kernel_rfl⟩
instance:Gq Tryz.prog 139 7 8:=⟨by kernel_rfl⟩
instance:Gq Tryz.prog 139 8 9:=⟨by kernel_rfl⟩
instance:Gq Tryz.prog 139 14 15:=⟨by kernel_rfl⟩
instance:Gq Tryz.prog 139 15 16:=⟨by kernel_rfl⟩
instance:Gq Tryz.prog 139 3 3:=⟨by kernel_rfl⟩
instance:Gq Tryz.prog 139 9 10:=⟨by kernel_rfl⟩
instance:Gq Tryz.prog 139 10 11:=⟨by kernel_rfl⟩
instance:Gq Tryz.prog 139 11 12:=⟨by kernel_rfl⟩
instance:Gq Tryz.prog 139 12 13:=⟨by kernel_rfl⟩
instance:Gq Tryz.prog 139 13 14:=⟨by kernel_rfl⟩
instance:Gq Tryz.prog 139 2 2:=⟨by kernel_rfl⟩
instance:Gq Tryz.prog 139 16 17:=⟨by kernel_rfl⟩
instance:Gq Tryz.prog 215 1 1:=⟨by kernel_rfl⟩
instance:Gq Tryz.prog 215 2 2:=⟨by kernel_rfl⟩
instance:Gq Tryz.prog 215 3 3:=⟨by kernel_rfl⟩
instance:Gq Tryz.prog 215 4 4:=⟨by kernel_rfl⟩
instance:Gq Tryz.prog 215 5 5:=⟨by kernel_rfl⟩
instance:Gq Tryz.prog 215 6 6:=⟨by kernel_rfl⟩
instance:Gq Tryz.prog 224 1 1:=⟨by kernel_rfl⟩
instance:Gq Tryz.prog 218 1 1:=⟨by kernel_rfl⟩
instance:Gq Tryz.prog 218 3 3:=⟨by kernel_rfl⟩
instance:Gq Tryz.prog 218 4 4:=⟨by kernel_rfl⟩
instance:Gq Tryz.prog 218 2 2:=⟨by kernel_rfl⟩
instance:Gq Tryz.prog 221 1 1:=⟨by kernel_rfl⟩
instance:Gq Tryz.prog 221 2 2:=⟨by kernel_rfl⟩
instance:Gq Tryz.prog 221 3 3:=⟨by kernel_rfl⟩
instance:Gq Tryz.prog 221 4 4:=⟨by kernel_rfl⟩
instance:Gq Tryz.prog 221 6 6:=⟨by kernel_rfl⟩
instance:Gq Tryz.prog 221 5 5:=⟨by kernel_rfl⟩
instance YN:Gq Tryz.prog 36 0 0:=⟨by kernel_rfl⟩
instance:Gq Tryz.prog 36 2 2:=⟨by kernel_rfl⟩
instance:Gq Tryz.prog 36 4 4:=⟨by kernel_rfl⟩
instance:Gq Tryz.prog 36 5 5:=⟨by kernel_rfl⟩
instance:Gq Tryz.prog 36 6 6:=⟨by kernel_rfl⟩
instance:Gq Tryz.prog 107 0 0:=⟨by kernel_rfl⟩
instance:Gq Tryz.prog 107 1 1:=⟨by kernel_rfl⟩
instance:Gq Tryz.prog 107 3 3:=⟨by kernel_rfl⟩
instance:Gq Tryz.prog 36 3 3:=⟨by kernel_rfl⟩
instance:Gq Tryz.prog 103 0 0:=⟨by kernel_rfl⟩
instance:Gq Tryz.prog 103 1 1:=⟨by kernel_rfl⟩
instance WU:Gq Tryz.prog 103 2 2:=⟨by kernel_rfl⟩
instance Kq:Gq Tryz.prog 91 1 11:=⟨by kernel_rfl⟩
instance SP:Gq Tryz.prog 91 2 12:=⟨by kernel_rfl⟩
instance jM:Gq Tryz.prog 91 0 0:=⟨by kernel_rfl⟩
instance YM:Gq Tryz.prog 93 0 0:=⟨by kernel_rfl⟩
instance jL:Gq Tryz.prog 93 1 1:=⟨by kernel_rfl⟩
instance Uz:Gq Tryz.prog 93 2 6:=⟨by kernel_rfl⟩
instance Qr:Gq Tryz.prog 93 3 13:=⟨by kernel_rfl⟩
instance:Gq Tryz.prog 145 0 0:=⟨by kernel_rfl⟩
instance:Gq Tryz.prog 145 1 1:=⟨by kernel_rfl⟩
instance:Gq Tryz.prog 150 0 0:=⟨by kernel_rfl⟩
instance:Gq Tryz.prog 150 1 1:=⟨by kernel_rfl⟩
instance:Gq Tryz.prog 155 0 0:=⟨by kernel_rfl⟩
instance:Gq Tryz.prog 155 1 1:=⟨by kernel_rfl⟩
instance:Gq Tryz.prog 160 0 0:=⟨by kernel_rfl⟩
instance:Gq Tryz.prog 160 1 1:=⟨by kernel_rfl⟩
instance:Gq Tryz.prog 165 0 0:=⟨by kernel_rfl⟩
instance:Gq Tryz.prog 165 1 1:=⟨by kernel_rfl⟩
instance:Gq Tryz.prog 50 0 0:=⟨by kernel_rfl⟩
instance:Gq Tryz.prog 50 1 1:=⟨by kernel_rfl⟩
instance:Gq Tryz.prog 50 2 2:=⟨by kernel_rfl⟩
instance:Gq Tryz.prog 50 3 3:=⟨by kernel_rfl⟩
instance:Gq Tryz.prog 50 4 4:=⟨by kernel_rfl⟩
instance:Gq Tryz.prog 112 1 11:=⟨by kernel_rfl⟩
instance:Gq Tryz.prog 107 2 2:=⟨by kernel_rfl⟩
instance:Gq Tryz.prog 148 1 1:=⟨by kernel_rfl⟩
instance:Gq Tryz.prog 112 0 0:=⟨by kernel_rfl⟩
instance dW:Gq Tryz.prog 112 2 16:=⟨by kernel_rfl⟩
instance:Gq Tryz.prog 148 0 0:=⟨by kernel_rfl⟩
instance:Gq Tryz.prog 153 0 0:=⟨by kernel_rfl⟩
instance:Gq Tryz.prog 153 1 1:=⟨by kernel_rfl⟩
instance:Gq Tryz.prog 163 0 0:=⟨by kernel_rfl⟩
instance:Gq Tryz.prog 163 1 1:=⟨by kernel_rfl⟩
instance:Gq Tryz.prog 163 2 2:=⟨by kernel_rfl⟩
instance:Gq Tryz.prog 163 3 3:=⟨by kernel_rfl⟩
instance dV:Gq Tryz.prog 112 3 23:=⟨by kernel_rfl⟩
instance dU:Gq Tryz.prog 112 4 24:=⟨by kernel_rfl⟩
instance:Gq Tryz.prog 158 1 1:=⟨by kernel_rfl⟩
instance:Gq Tryz.prog 158 2 2:=⟨by kernel_rfl⟩
instance:Gq Tryz.prog 158 0 0:=⟨by kernel_rfl⟩
instance:Gq Tryz.prog 158 3 3:=⟨by kernel_rfl⟩
instance:Gq Tryz.prog 194 3 3:=⟨by kernel_rfl⟩
instance:Gq Tryz.prog 194 0 0:=⟨by kernel_rfl⟩
instance:Gq Tryz.prog 194 2 2:=⟨by kernel_rfl⟩
instance:Gq Tryz.prog 112 5 25:=⟨by kernel_rfl⟩
instance:Gq Tryz.prog 194 1 1:=⟨by kernel_rfl⟩
instance jN:Gq Tryz.prog 52 3 3:=⟨by kernel_rfl⟩
instance:Gq Tryz.prog 52 4 8:=⟨by kernel_rfl⟩
instance jP:Gq Tryz.prog 52 0 0:=⟨by kernel_rfl⟩
instance jO:Gq Tryz.prog 52 1 1:=⟨by kernel_rfl⟩
instance NM:SB Tryz.prog 23 133 12:=⟨by kernel_rfl⟩
instance OK:SB Tryz.prog 24 139 18:=⟨by kernel_rfl⟩
instance mP:SB Tryz.prog 22 9 1:=⟨by kernel_rfl⟩
instance Jh:SB Tryz.prog 32 29 1:=⟨by kernel_rfl⟩
instance bV:SB Tryz.prog 25 215 7:=⟨by kernel_rfl⟩
instance bU:SB Tryz.prog 26 218 5:=⟨by kernel_rfl⟩
instance bT:SB Tryz.prog 27 221 7:=⟨by kernel_rfl⟩
instance bS:SB Tryz.prog 28 224 2:=⟨by kernel_rfl⟩
instance CY:SB Tryz.prog 29 3 1:=⟨by kernel_rfl⟩
instance LN:SB Tryz.prog 130 129 2:=⟨by kernel_rfl⟩
instance pR:SB Tryz.prog 131 210 2:=⟨by kernel_rfl⟩
instance pQ:SB Tryz.prog 264 130 1:=⟨by kernel_rfl⟩
instance OJ:SB Tryz.prog 34 107 4:=⟨by kernel_rfl⟩
instance On:SB Tryz.prog 33 103 3:=⟨by kernel_rfl⟩
instance bR:SB Tryz.prog 45 148 2:=⟨by kernel_rfl⟩
instance bQ:SB Tryz.prog 46 153 2:=⟨by kernel_rfl⟩
instance bP:SB Tryz.prog 47 158 4:=⟨by kernel_rfl⟩
instance bO:SB Tryz.prog 48 163 4:=⟨by kernel_rfl⟩
instance bW:SB Tryz.prog 248 190 1:=⟨by kernel_rfl⟩
instance QA:SB Tryz.prog 190 194 4:=⟨by kernel_rfl⟩
instance T0:SB Tryz.prog 37 52 9:=⟨by kernel_rfl⟩
instance bN:SB Tryz.prog 70 4 1:=⟨by kernel_rfl⟩
instance vF:SB Tryz.prog 69 36 7:=⟨by kernel_rfl⟩
instance NJ:Rr Tryz.prog 31 11:=⟨by kernel_rfl⟩
instance mJ:Fc (Kd Tryz.prog 23 1 false=true):=⟨by kernel_rfl⟩
instance mI:Fc (Kd Tryz.prog 24 1 false=true):=⟨by kernel_rfl⟩
instance mK:Fc (Kd Tryz.prog 22 1 false=true):=⟨by kernel_rfl⟩
instance II:Rr Tryz.prog 36 7:=⟨by kernel_rfl⟩
instance P7:Rr Tryz.prog 133 12:=⟨by kernel_rfl⟩
instance Vk:Fc (Kd Tryz.prog 32 1 false=true):=⟨by kernel_rfl⟩
instance GU:Fc (Kd Tryz.prog 29 1 false=true):=⟨by kernel_rfl⟩
instance oR:Fc (Kd Tryz.prog 9 1 false=true):=⟨by kernel_rfl⟩
instance Fi:Fc (Kd Tryz.prog 3 1 false=true):=⟨by kernel_rfl⟩
instance mH:Fc (Kd Tryz.prog 25 1 false=true):=⟨by kernel_rfl⟩
instance mG:Fc (Kd Tryz.prog 26 1 false=true):=⟨by kernel_rfl⟩
instance mF:Fc (Kd Tryz.prog 27 1 false=true):=⟨by kernel_rfl⟩
instance mE:Fc (Kd Tryz.prog 28 1 false=true):=⟨by kernel_rfl⟩
instance oW:Fc (Kd Tryz.prog 225 1 false=true):=⟨by kernel_rfl⟩
instance Tg:Fc (Kd Tryz.prog 4 1 false=true):=⟨by kernel_rfl⟩
instance oU:Rr Tryz.prog 261 2:=⟨by kernel_rfl⟩
instance Ok:Rr Tryz.prog 139 18:=⟨by kernel_rfl⟩
instance aT:Rr Tryz.prog 215 7:=⟨by kernel_rfl⟩
instance aQ:Rr Tryz.prog 224 2:=⟨by kernel_rfl⟩
instance aS:Rr Tryz.prog 218 5:=⟨by kernel_rfl⟩
instance aR:Rr Tryz.prog 221 7:=⟨by kernel_rfl⟩
instance Ud:Rr Tryz.prog 129 2:=⟨by kernel_rfl⟩
instance Ol:Fc (Kd Tryz.prog 130 1 false=true):=⟨by kernel_rfl⟩
instance aV:Fc (Kd Tryz.prog 131 1 false=true):=⟨by kernel_rfl⟩
instance oX:Rr Tryz.prog 210 2:=⟨by kernel_rfl⟩
instance oV:Rr Tryz.prog 232 3:=⟨by kernel_rfl⟩
instance mD:Fc (Kd Tryz.prog 34 1 false=true):=⟨by kernel_rfl⟩
instance I6:Rr Tryz.prog 107 4:=⟨by kernel_rfl⟩
instance Xp:Fc (Kd Tryz.prog 33 1 false=true):=⟨by kernel_rfl⟩
instance Sb:Rr Tryz.prog 103 3:=⟨by kernel_rfl⟩
instance LM:Fc (Kd Tryz.prog 89 1 false=true):=⟨by kernel_rfl⟩
instance Pr:Rr Tryz.prog 50 5:=⟨by kernel_rfl⟩
instance pC:Rr Tryz.prog 148 2:=⟨by kernel_rfl⟩
instance:Fc (Kd Tryz.prog 45 1 false=true):=⟨by kernel_rfl⟩
instance pB:Rr Tryz.prog 153 2:=⟨by kernel_rfl⟩
instance:Fc (Kd Tryz.prog 46 1 false=true):=⟨by kernel_rfl⟩
instance pA:Rr Tryz.prog 158 4:=⟨by kernel_rfl⟩
instance:Fc (Kd Tryz.prog 47 1 false=true):=⟨by kernel_rfl⟩
instance oZ:Rr Tryz.prog 163 4:=⟨by kernel_rfl⟩
instance:Fc (Kd Tryz.prog 48 1 false=true):=⟨by kernel_rfl⟩
instance pD:Rr Tryz.prog 112 26:=⟨by kernel_rfl⟩
instance aP:Fc (Kd Tryz.prog 71 1 false=true):=⟨by kernel_rfl⟩
instance:Fc (Kd Tryz.prog 190 1 false=true):=⟨by kernel_rfl⟩
instance oY:Fc (Kd Tryz.prog 192 1 false=true):=⟨by kernel_rfl⟩
instance aU:Rr Tryz.prog 194 4:=⟨by kernel_rfl⟩
instance:KE CH 0 AB (·.Q):=⟨XZ⟩
instance:KE CH 1 AB (·.X):=⟨TZ⟩
instance:KE B4 2 AB (·.Au):=⟨OQ⟩
instance:KE B4 4 (A7.sl CH) (·.Bl):=⟨PQ⟩
instance:KE B4 5 (A7.sl AB) (·.An):=⟨PP⟩
instance:KE B4 6 AB (·.Y):=⟨Cp.f_Num⟩
instance:KE B4 7 AB (·.S):=⟨Cp.f_Den⟩
instance:KE B4 11 (A7.sl J8) (·.T):=⟨Cp.f_Rain⟩
instance:KE K5 0 (A7.sl CH) (·.Aw):=⟨OH⟩
instance:KE K5 1 (A7.sl CH) (·.Ax):=⟨OI⟩
instance:KE CD 1 AB (·.F):=⟨BB.f_Kind⟩
instance:KE CD 3 AB (·.D):=⟨BB.f_To⟩
instance:KE CD 4 (A7.sl CH) (·.As):=⟨KY⟩
instance:KE CD 5 K5 (·.Ad):=⟨IX⟩
instance:KE CD 7 AB (·.W):=⟨Gm⟩
instance:KE CD 8 AB (·.Ag):=⟨Kp⟩
instance:KE CD 9 AB (·.Bb):=⟨OG⟩
instance:KE CD 10 AB (·.Bc):=⟨Nd⟩
instance:KE CD 11 AB (·.Y):=⟨BB.f_Num⟩
instance:KE CD 12 AB (·.S):=⟨BB.f_Den⟩
instance:KE CD 13 AB (·.Az):=⟨P2⟩
instance:KE CD 14 AB (·.Ba):=⟨P3⟩
instance:KE CD 15 AB (·.Aq):=⟨J5⟩
instance:KE CD 16 AB (·.Al):=⟨J6⟩
instance:KE B5 0 A7.str (·.E):=⟨AF.f_Name⟩
instance:KE B5 1 (A7.sl A7.str) (·.H):=⟨IH⟩
instance:KE B5 2 AB (·.J):=⟨NG⟩
instance:KE B5 3 (A7.sl B4) (·.A):=⟨Cv⟩
instance:KE B5 4 (A7.sl CD) (·.C):=⟨HW⟩
instance:KE B5 5 (A7.sl HN) (·.Af):=⟨KP⟩
instance:KE B5 6 (A7.sl Ex) (·.Ah):=⟨Kw⟩
instance:KE B5 7 (A7.sl G7) (·.Ai):=⟨Lf⟩
instance:KE B5 8 (A7.sl Dc) (·.Ak):=⟨KC⟩
instance:KE B5 9 (A7.sl AB) (·.Aj):=⟨AF.f_Room⟩
instance:KE B5 10 AB (·.K):=⟨AF.f_Err⟩
instance:KE A0 0 AB (·.At):=⟨Xa⟩
instance:KE A0 1 AB (·.D):=⟨AT.f_To⟩
instance:KE A0 2 (A7.sl AB) (·.V):=⟨AT.f_Part⟩
instance:KE BT 0 AB (·.Z):=⟨Rs⟩
instance:KE BT 3 A7.bool (·.Am):=⟨VY⟩
instance:KE BO 0 AB (·.B):=⟨AI.f_Hour⟩
instance:KE BO 1 (A7.sl (A7.sl AB)) (·.G):=⟨Mm⟩
instance:KE BO 2 (A7.sl AB) (·.N):=⟨LZ⟩
instance:KE BO 3 (A7.sl A0) (·.I):=⟨La⟩
instance:KE BO 4 (A7.sl BT) (·.P):=⟨Lb⟩
instance:KE BO 5 (A7.sl AB) (·.L):=⟨AI.f_In⟩
instance:KE BO 6 (A7.sl AB) (·.O):=⟨Mn⟩
instance:KE DU 1 AB (·.Bh):=⟨P1⟩
instance:KE DU 2 AB (·.Bd):=⟨FM.f_Litres⟩
instance:KE Cf 0 (A7.sl AB) (·.T):=⟨B3.f_Rain⟩
instance:KE Cf 1 (A7.sl C3) (·.Ab):=⟨Kv⟩
instance:KE Cf 2 (A7.sl FX) (·.Ac):=⟨L7⟩
instance:KE Cf 3 (A7.sl DU) (·.U):=⟨Lc⟩
instance:KE Cf 4 (A7.sl Du) (·.Ae):=⟨Ld⟩
instance:KE Ef 0 (A7.sl AB) (·.a):=⟨DQ.f_a⟩
instance:KE Ef 1 (A7.sl AB) (·.b):=⟨DQ.f_b⟩
instance:KE Km 0 (A7.sl C3) (·.a):=⟨J0.f_a⟩
instance:KE Km 1 (A7.sl C3) (·.b):=⟨J0.f_b⟩
instance:KE NZ 0 (A7.sl FX) (·.a):=⟨NF.f_a⟩
instance:KE NZ 1 (A7.sl FX) (·.b):=⟨NF.f_b⟩
instance:KE L5 0 (A7.sl DU) (·.a):=⟨K8.f_a⟩
instance:KE L5 1 (A7.sl DU) (·.b):=⟨K8.f_b⟩
instance:KE L6 0 (A7.sl Du) (·.a):=⟨K9.f_a⟩
instance:KE L6 1 (A7.sl Du) (·.b):=⟨K9.f_b⟩
instance:KE A3 0 AB (·.to_):=⟨Lw⟩
instance:KE A3 1 AB (·.delay):=⟨NE⟩
instance:KE A3 2 AB (·.way):=⟨Nw⟩
instance:KE A3 3 (A7.fnr Tryz.prog (λS h vs (x:(List Int))=>∃w0:Value,vs=[w0]∧Sl S h AB w0 x) (λS h v (y:((List Int)×(List Int)))=>∃w0 w1:Value,v= .tuple #[w0,w1]∧Sl S h AB w0 y.1∧Sl S h AB w1 y.2)) (·.take):=⟨NT⟩
instance:KE Ca 0 AB (·.Bk):=⟨LY⟩
instance:KE Ca 1 AB (·.Bi):=⟨LX⟩
instance:KE Ca 3 Cf (·.L):=⟨BS.f_In⟩
instance:KE Ca 8 (A7.sl AB) (·.Bn):=⟨Nc⟩
end Go.Proofs.YtabonambpbofgaaGreat
