import Derived.Test.YtabonambpbofgaaGreatNCore14
import Derived.Test.YtabonambpbofgaaGreatNCore18
import Derived.Test.YtabonambpbofgaaGreatNCore26
import Derived.Test.YtabonambpbofgaaGreatNSortD
import Derived.Test.YtabonambpbofgaaGreatNReps
import Derived.Test.YtabonambpbofgaaGreatRows
namespace Go.Proofs.YtabonambpbofgaaGreat
set_option linter.all false
open Go.RowKit
def Aam {a:Type}(f:a→HP):HP where
 holds:=λS F h=>∃i,(f i).holds S F h
 loc:=λ⟨i,k⟩ s e=>⟨i,(f i).loc k s e⟩
def vR {α}(r:A5 α) (cs:List Value) (x:α):HP where
 holds:=λS F h=>r.rd S h cs x∧∀b,¬F b
 loc:=λ⟨a,c⟩ s e=>⟨r.mono a s λb d=>e b (.inl d),c⟩
section
variable {S:Nat→Prop}{L:List HP}{h:AS}
def St.exO {g:Type}{f:g→HP}(a:St S (Aam f::L) h):∃i,St S (f i::L) h:=by
 obtain⟨b,F,⟨i,k⟩,c,d⟩:=a;exact⟨i,b,F,k,c,d⟩
def gV {g:Type}{f:g→HP}(i:g) (a:St S (f i::L) h):St S (Aam f::L) h:=by
 obtain⟨b,F,k,c,d⟩:=a;exact⟨b,F,⟨i,k⟩,c,d⟩
def Xk {α}{r:A5 α}{cs:List Value}{x:α}(a:St S (vR r cs x::L) h):r.rd S h cs x∧St S L h:=by
 obtain⟨F,k,_⟩:=a.get (Ac4 ..);exact⟨k.1,a.drop .head⟩
def Tk {α}{r:A5 α}{cs:List Value}{x:α}(a:St S L h) (k:r.rd S h cs x):St S (vR r cs x::L) h:=
 (a.add (H':=vR r cs x) (Acr _) (λ_ _=>rfl) ⟨λ_=>False,⟨k,λ_ x=>x⟩,λ_ x=>x.elim⟩).1
end
structure DL where
 par:Int
 inp:AN
 st:AI
 kids:List Int
structure Eu where
 bas:AF
 vs:List (Int×DL)
 cr:Int
instance:Inhabited Eu:=⟨⟨default,[],0⟩⟩
def vO:Option Nat→Value
 |none=> .pointer none
 |some b=> .pointer (some ⟨b,0,none⟩)
def VB (T E b:Nat) (x:DL):HP:=Aam λp:(List Value×List Value)×Value=>P8 [Pu (AA x.par),vR BD p.1.1 x.inp,vR BU p.1.2 x.st,Bx b T (.int .i64 x.par::(p.1.1++(p.1.2++[p.2]))),OS AB E p.2 x.kids]
def MD (T E:Nat) (f:Int→Nat) (vs:List (Int×DL)):List HP:=vs.map λe=>VB T E (f e.1) e.2
def OB (f:Int→Nat) (vs:List (Int×DL)):List (Int×Option Nat):=vs.map λe=>(e.1,some (f e.1))
def OP (TT T E:Nat) (v:Value):Option Eu→HP
 |none=>Pu (v= .pointer none)
 |some t=>Aam λp:(Nat×Nat)×(Int→Nat)×List Value=>P8 (Pu (v= .pointer (some ⟨p.1.1,0,none⟩)∧AA t.cr∧(t.vs.map (·.1)).Nodup)::vR B3 p.2.2 t.bas::Bx p.1.1 TT (p.2.2++[.map (some p.1.2),.int .i64 t.cr])::MP (Value.int .i64) vO p.1.2 (OB p.2.1 t.vs)::MD T E p.2.1 t.vs)
section
variable {S:Nat→Prop}{L:List HP}{h:AS}{TT T E b bm:Nat}{x:DL}{t:Eu}{v:Value}
def St.vbO (a:St S (VB T E b x::L) h):∃c cs d,AA x.par∧BD.rd S h c x.inp∧BU.rd S h cs x.st∧St S (Bx b T (.int .i64 x.par::(c++(cs++[d])))::OS AB E d x.kids::L) h:=by
 obtain⟨⟨⟨c,cs⟩,d⟩,a⟩:=a.exO;have a:=a.unpack;obtain⟨g,a⟩:=oW a;obtain⟨i,a⟩:=Xk a;obtain⟨j,a⟩:=Xk a;exact⟨c,cs,d,g,i,j,a⟩
def uI {a cs:List Value}{c:Value}(d:AA x.par) (g:BD.rd S h a x.inp) (i:BU.rd S h cs x.st) (j:St S (Bx b T (.int .i64 x.par::(a++(cs++[c])))::OS AB E c x.kids::L) h):St S (VB T E b x::L) h:=
 gV ((a,cs),c) (Yz (L1:=[_,_,_,_,_]) (VW (Tk (Tk j i) g) d))
def St.trO (a:St S (OP TT T E v (some t)::L) h):∃b bm f c,v= .pointer (some ⟨b,0,none⟩)∧AA t.cr∧(t.vs.map (·.1)).Nodup∧B3.rd S h c t.bas∧St S (Bx b TT (c++[.map (some bm),.int .i64 t.cr])::MP (Value.int .i64) vO bm (OB f t.vs)::(MD T E f t.vs++L)) h:=by
 obtain⟨⟨⟨b,bm⟩,f,c⟩,a⟩:=St.exO a;have a:=St.unpack a;obtain⟨⟨d,g,i⟩,a⟩:=oW a;obtain⟨j,a⟩:=Xk a;exact⟨b,bm,f,c,d,g,i,j,a⟩
def uK {f:Int→Nat}{a:List Value}(c:v= .pointer (some ⟨b,0,none⟩)) (d:AA t.cr) (g:(t.vs.map (·.1)).Nodup) (i:B3.rd S h a t.bas) (j:St S (Bx b TT (a++[.map (some bm),.int .i64 t.cr])::MP (Value.int .i64) vO bm (OB f t.vs)::(MD T E f t.vs++L)) h):St S (OP TT T E v (some t)::L) h:=
 by
 have:=Yz (L1:=_::_::_::_::MD T E f t.vs) (VW (p:=v= .pointer (some ⟨b,0,none⟩)∧AA t.cr∧(t.vs.map (·.1)).Nodup) (Tk j i) ⟨c,d,g⟩);unfold OP;exact gV ((b,bm),f,a) this
def gU (a:St S L h):St S (OP TT T E (.pointer none) none::L) h:=VW a rfl
end
def CV (vs:List (Int×DL)) (i:Int):Option DL:=(vs.find? λe=>decide (e.1=i)).map (·.2)
def M9 {vs:List (Int×DL)}{i:Int}{x:DL}(h:CV vs i=some x):∃p q,vs=p++(i,x)::q∧∀e∈p,e.1≠i:=by
 unfold CV at h;obtain⟨e,b,rfl⟩:=Adt.1 h;obtain⟨c,p,q,d,g⟩:=List.find?_eq_some_iff_append.1 b;have:e.1=i:=Ad2 c;subst this;exact⟨p,q,d,λa j=>by have:=g a j;simpa using this⟩
section
variable {S:Nat→Prop}{L K:List HP}{h:AS}{T E:Nat}{f:Int→Nat}{p q:List (Int×DL)}{i:Int}{x y:DL}
def Qj:MD T E f (p++q)=MD T E f p++MD T E f q:=by simp [MD]
def Vy:MD T E f ((i,x)::q)=VB T E (f i) x::MD T E f q:=rfl
def OQ (a:St S (K++(MD T E f (p++(i,x)::q)++L)) h):St S (VB T E (f i) x::(K++(MD T E f p++(MD T E f q++L)))) h:=by
 rw[Qj,Vy,Ado,Acu,←Ado] at a;have:=a.unmid;rwa [Ado] at this
def Sj (a:St S (VB T E (f i) x::(K++(MD T E f p++(MD T E f q++L)))) h):St S (K++(MD T E f (p++(i,x)::q)++L)) h:=by
 rw[Qj,Vy,Ado,Acu,←Ado];rw[←Ado] at a;exact a.mid
end
def Q5 {d:Type}{k:Int}:∀{m:List (Int×d)},Lr (Value.int .i64) m k=(m.find? λe=>decide (e.1=k)).map (·.2)
 |[]=>rfl
 |e::m=>by
  have a:=Q5 (k:=k) (m:=m);unfold Lr at a ⊢;rw[Ae4,Ae4];by_cases h:e.1=k
  ·subst h;simp [LB,Vs]
  ·have c:LB (Value.int .i64 k) (Value.int .i64 e.1)=false:=by
    cases b:LB (Value.int .i64 k) (Value.int .i64 e.1) with
    |false=>rfl
    |true=>simp [LB,Vs] at b;exact absurd b.symm h
   rw[c,Ack h];exact a
def X0 {f:Int→Nat}{vs:List (Int×DL)}{i:Int}:Lr (Value.int .i64) (OB f vs) i=(CV vs i).map λ_=>some (f i):=by
 rw[Q5];unfold OB CV;rw[List.find?_map];cases h:vs.find? λe=>decide (e.1=i) with
 |none=>simp [Function.comp_def,h]
 |some e=>
  have:e.1=i:=by simpa using List.find?_some h
  simp [Function.comp_def,h,this]
def Wz {P:Program}{c:Array Oper}{C:World→Prop}{Q:Act→Prop}{n:FN}{m:SM}{a:List Oper}{d:Nat}{ty:TypeId}{g:String}{u:Array Edge}{X Y:Operand}{S:Nat→Prop}{L:List HP}{h:AS}{TT T E:Nat}{v:Value}{o:Option Eu}{t t2 i:TypeId}(w:St S L h) (x:OP TT T E v o∈L) (j:B4 m X=some v) (l:B4 m Y=some (.pointer none)) (p:P.underlying t=some (.pointer i)) (y:((P.info? i).map (·.size)).isSome=true) (hd:Nat.blt d n.1=true) (k:QF P c C Q a n ((d,.bool o.isNone)::m)):
  QF P c C Q (⟨some d,.binOp .eql t X Y t2,ty,g,u,none⟩::a) n m:=by
 obtain⟨k0,q⟩:=Aeo.1 y;obtain⟨F,s,_⟩:=w.get x;cases o with
 |none=>
  obtain rfl:v= .pointer none:=s.1;exact Sk j l p q hd k
 |some t=>
  obtain⟨⟨⟨b,bm⟩,f,A⟩,B,⟨⟨z,_⟩,_⟩,_⟩:=s;subst z;exact Sk j l p q hd k
section
variable {P:Program}{ops:Array Oper}{C:World→Prop}{Q:Act→Prop}{n:FN}{m:SM}{rest:List Oper}
variable {d:Nat}{ty:TypeId}{pos:String}{af:Array Edge}{X Y:Operand}{t:TypeId}{S:Nat→Prop}{L:List HP}{h:AS}{b:Nat}
def Y9 {κ β:Type}{kv:κ→Value}{vv:β→Value}{l:List (κ×β)}{kt et:TypeId}(j:CK C h) (o:St S L h) (p:MP kv vv b l∈L) (q:B4 m X=some (.map (some b))) (s:P.underlying t=some (.map kt et)) (hd:Nat.blt d n.1=true) (k:QF P ops C Q rest n ((d,.int .i64 (l.length:Int))::m)):
  QF P ops C Q (⟨some d,.call ⟨.builtin .len,#[X],#[t]⟩,ty,pos,af,none⟩::rest) n m:=λa i=>by
 refine GI i hd (λw u=>?_) k;obtain⟨F,⟨v,es,c,x,y,_⟩,g⟩:=o.get p;have z:w.heap[b]? =some (.map es c):=(j w u b (g b ((v b).2 rfl)).1).trans x;have A:es.size=l.length:=by
  have:=Ach List.length y;simpa using this
 simp [execOp,resolve,invoke,builtin,Builtin.len_,i.eval q,run_underlying s,MapKept.run_getObj_map z,goInt,A]
end
section
variable {P:Program}{ops:Array Oper}{Q:Exit→Act→World→Prop}{n:FN}{m:SM}{rest:List Oper}{B:World}
variable {ty:TypeId}{pos:String}{af:Array Edge}{X Y Z:Operand}{t:TypeId}{S:Nat→Prop}{L L2:List HP}{h:AS}{b:Nat}
variable {κ β:Type}{kv:κ→Value}{vv:β→Value}{l:List (κ×β)}{k0:κ}{x:β}{kt et:TypeId}
def vF (hs:St S L h) (rp:Mx L (MP kv vv b l) (MP kv vv b (Og kv l k0 x)) L2) (hx:B4 m X=some (.map (some b))) (hy:B4 m Y=some (kv k0)) (hz:B4 m Z=some (vv x)) (hT:P.underlying t=some (.map kt et)) (G:NR P kt kv)
  (k:∀h',St S L2 h'→CJ S h S h'→LF P ops Q rest B h' n m):LF P ops Q (⟨none,.insert t X Y Z,ty,pos,af,none⟩::rest) B h n m:=by
 intro a w q u;refine wpList_plain rfl λK v=>?_;unfold Oper.wp;obtain⟨M,p,_⟩:=rp.pick;obtain⟨F,⟨g1,es,c,g2,H,g4⟩,hF,_⟩:=Sp.pick p hs.2;have y:w.heap[b]? =some (.map es c):=by rw[u.heap];exact g2
 have I:=G.find k0 es.toList w (RG H);have z:∀(o:Obj) (h0:w.heap=h),(∀c',c'≠b→(w.heap.setIfInBounds b o)[c']? =h[c']?)∧(w.heap.setIfInBounds b o)[b]? =some o∧(w.heap.setIfInBounds b o).size=h.size:=λo h0=>by
  have J:b<w.heap.size:=(Ade.1 y).1;refine⟨λc' A=>by rw[Afx (Ne.symm A),h0],?_,by simp [h0]⟩;rw[Array.getElem?_setIfInBounds_self];simp [J]
 have C:∀(d:Array MapEntry) (c':Nat),d.toList.map (λe=>(e.key,e.val))=(Og kv l k0 x).map (λe=>(kv e.1,vv e.2))→Nq d.toList c'→wpList P ops Q rest a { w with heap:=w.heap.setIfInBounds b (.map d c')}:=λd c' he U=>by
  obtain⟨s1,s2,s3⟩:=z (.map d c') u.heap;have V:Wd B (w.heap.setIfInBounds b (.map d c')) { w with heap:=w.heap.setIfInBounds b (.map d c')}:=⟨rfl,u.os,u.tape,u.out⟩
  obtain⟨u1,u2⟩:=hs.upd (h':=w.heap.setIfInBounds b (.map d c')) rp (by omega) λF k1 k2=>⟨F,⟨k1.1,d,c',s2,he,U⟩,λc A=> .inl A,λc _ A=>s1 c λe=>A ((k1.1 c).2 e)⟩
  exact k _ u1 u2 a _ q V
 cases i:UZ (LB (kv k0)) es.toList 0 with
 |none=>
  rw[i] at I;have g:(execOp a.eval ⟨none,.insert t X Y Z,ty,pos,af,none⟩).run P w= .ok .skip { w with heap:=w.heap.setIfInBounds b (.map (es.push { key:=kv k0,val:=vv x,born:=c}) (c+1))}:=by
   simp [execOp,q.eval hx,q.eval hy,q.eval hz,Instr.mapUpdate,run_underlying hT,MapKept.run_getObj_map y,G.chk,I,MapKept.run_setObj_map _ y]
  rw[g];refine v _ _ (C _ _ ?_ (by rw[Array.toList_push];exact g4.push _ rfl));rw[TZ k0 0 x H i];simp [H]
 |some r=>
  obtain⟨j,r2⟩:=r;rw[i] at I;obtain⟨_,q2,⟨W,q3,q4⟩,q5⟩:=TY k0 (vv x) 0 j r2 x H i;have D:((es[j]?).map (·.key)).getD (kv k0)=kv W:=by
   have:(es[j]?).map (·.key)=some (kv W):=by simpa using q3
   simp [this]
  have s:(Instr.keyThatStays (kv W) (kv k0)).run P w= .ok (kv k0) w:=by simp [Instr.keyThatStays,G.same _ _ q4]
  have g:(execOp a.eval ⟨none,.insert t X Y Z,ty,pos,af,none⟩).run P w= .ok .skip { w with heap:=w.heap.setIfInBounds b (.map (es.modify j λe=>{ e with key:=kv k0,val:=vv x}) c)}:=by
   simp [execOp,q.eval hx,q.eval hy,q.eval hz,Instr.mapUpdate,run_underlying hT,MapKept.run_getObj_map y,G.chk,I,D,s,MapKept.run_setObj_map _ y]
  rw[g];refine v _ _ (C _ _ ?_ (by rw[Array.toList_modify];exact g4.of (R7 _ _ _ λ_=>rfl)));simpa using q5
end
section
variable {P:Program}{ex:List (Nat×AP)}{RR N:AP}{cs:List Code}{B:World}{h:AS}{n:FN}{m:SM}{C:World→Prop}{l:List Oper}{fuel:Nat}{listed:Array Bool}{d:Nat}{ty:TypeId}{pos:String}{af:Array Edge}{a:Act}{w:World}
def cQ {T:TypeId}{b:Array (Nat×Operand)}{pl z pv}{cs:List Value}(o:Fr n a m) (q:Sz P T=some (pl,z)) (c:b.toList.mapM (Z8 m)=some pv) (k:Mr pl z pv=some cs):(execOp a.eval ⟨some d,.build T b,ty,pos,af,none⟩).run P w= .ok (.value (.agg cs.toArray)) w:=by
 have i:(b.map λ(p:Nat×Operand)=>(p.1,a.eval p.2)).toList=pv:=by
  obtain⟨l⟩:=b;simp only at c;simp only[List.map_toArray];clear k
  induction l generalizing pv with
  |nil=>simp at c;subst c;rfl
  |cons x l s=>
   simp only[Aez,Aff,Aeh,Z8,Adt] at c;obtain⟨y,⟨v,t,rfl⟩,u,j,g⟩:=c;simp only[Afg,Adh] at g;subst g;simp only[Acz,o.eval t,s j]
 have:=run_build (P:=P) w T (b.map λ(p:Nat×Operand)=>(p.1,a.eval p.2)) cs.toArray (by rw[i];exact Wt q k);simp only[execOp,Sem.run_bind,this];rfl
def vH (i:Nat) {T:TypeId}{b:Array (Nat×Operand)}{pl z pv}{vs:List Value}(g:l[i]? =some ⟨some d,.build T b,ty,pos,af,none⟩) (c:Sf l listed i=true) (j:∀w,Wd B h w→C w) (o:Sz P T=some (pl,z)) (p:b.toList.mapM (Z8 m)=some pv) (q:Mr pl z pv=some vs) (hd:Nat.blt d n.1=true) (k:HF P l (QW P ex RR cs N) C fuel (listed.setIfInBounds i true) B h n ((d,.agg vs.toArray)::m)):HF P l (QW P ex RR cs N) C (fuel+1) listed B h n m:=
 Pe i g c j hd (λa w s _=>cQ s o p q) k
end
def iQ:AN:=⟨[],[],[],[],[]⟩
def rM {S:Nat→Prop}{h:AS}:Rd S h BD (.agg #[.slice none 0 0,.slice none 0 0,.slice none 0 0,.slice none 0 0,.slice none 0 0]) iQ:=
 BD.mk (x:=iQ) (.inl ⟨rfl,rfl⟩) (.inl ⟨rfl,rfl⟩) (.inl ⟨rfl,rfl⟩) (.inl ⟨rfl,rfl⟩) (.inl ⟨rfl,rfl⟩)
def St.trX {S:Nat→Prop}{L:List HP}{h:AS}{TT T E:Nat}{v:Value}{t:Eu}(n:St S (OP TT T E v (some t)::L) h):∃b m f v1 a c d g i j l,v= .pointer (some ⟨b,0,none⟩)∧AA t.cr∧(t.vs.map (·.1)).Nodup∧Rd S h B3 (.agg #[.string t.bas.F,v1,.int .i64 t.bas.K,a,c,d,g,i,j,l,.int .i64 t.bas.L]) t.bas∧St S (Bx b TT [.string t.bas.F,v1,.int .i64 t.bas.K,a,c,d,g,i,j,l,.int .i64 t.bas.L,.map (some m),.int .i64 t.cr]::MP (Value.int .i64) vO m (OB f t.vs)::(MD T E f t.vs++L)) h:=by
 obtain⟨b,m,f,u,o,p,q,s,n⟩:=n.trO;obtain⟨v1,a,c,d,g,i,j,l,rfl,k⟩:=s;exact⟨b,m,f,v1,a,c,d,g,i,j,l,o,p,q,⟨_,rfl,v1,a,c,d,g,i,j,l,rfl,k⟩,n⟩
def PZ {S:Nat→Prop}{L:List HP}{h:AS}{TT T E b m:Nat}{t:Eu}{f:Int→Nat}{v1 a c d g i j l:Value}(n:AA t.cr) (o:(t.vs.map (·.1)).Nodup) (p:Rd S h B3 (.agg #[.string t.bas.F,v1,.int .i64 t.bas.K,a,c,d,g,i,j,l,.int .i64 t.bas.L]) t.bas) (q:St S (Bx b TT [.string t.bas.F,v1,.int .i64 t.bas.K,a,c,d,g,i,j,l,.int .i64 t.bas.L,.map (some m),.int .i64 t.cr]::MP (Value.int .i64) vO m (OB f t.vs)::(MD T E f t.vs++L)) h):St S (OP TT T E (.pointer (some ⟨b,0,none⟩)) (some t)::L) h:=by
 obtain⟨cs,e,k⟩:=p;obtain rfl:cs=[.string t.bas.F,v1,.int .i64 t.bas.K,a,c,d,g,i,j,l,.int .i64 t.bas.L]:=by
  have:Value.agg #[.string t.bas.F,v1,.int .i64 t.bas.K,a,c,d,g,i,j,l,.int .i64 t.bas.L]= .agg cs.toArray:=e;have:=Ach Array.toList (Value.agg.inj this);simpa using this.symm
 exact uK rfl n o k q
def St.vbX {S:Nat→Prop}{L:List HP}{h:AS}{T E b:Nat}{x:DL}(t:St S (VB T E b x::L) h):∃a c d g i l m n o p q s,AA x.par∧Rd S h BD (.agg #[a,c,d,g,i]) x.inp∧AA x.st.B∧Rd S h BU (.agg #[.int .i64 x.st.B,l,m,n,o,p,q]) x.st∧St S (Bx b T [.int .i64 x.par,a,c,d,g,i,.int .i64 x.st.B,l,m,n,o,p,q,s]::OS AB E s x.kids::L) h:=by
 obtain⟨y,cs,s,u,v,w,t⟩:=t.vbO;obtain⟨a,c,d,g,i,rfl,k⟩:=v;obtain⟨l,m,n,o,p,q,rfl,j⟩:=w;exact⟨a,c,d,g,i,l,m,n,o,p,q,s,u,⟨_,rfl,a,c,d,g,i,rfl,k⟩,j.1,⟨_,rfl,l,m,n,o,p,q,rfl,j⟩,t⟩
def Rs {S:Nat→Prop}{L:List HP}{h:AS}{T E b:Nat}{x:DL}{a c d g i l m n o p q s:Value}(u:AA x.par) (v:Rd S h BD (.agg #[a,c,d,g,i]) x.inp) (w:Rd S h BU (.agg #[.int .i64 x.st.B,l,m,n,o,p,q]) x.st) (y:St S (Bx b T [.int .i64 x.par,a,c,d,g,i,.int .i64 x.st.B,l,m,n,o,p,q,s]::OS AB E s x.kids::L) h):St S (VB T E b x::L) h:=by
 obtain⟨t,e,k⟩:=v;obtain⟨cs,z,j⟩:=w;obtain rfl:t=[a,c,d,g,i]:=by
  have:Value.agg #[a,c,d,g,i]= .agg t.toArray:=e;have:=Ach Array.toList (Value.agg.inj this);simpa using this.symm
 obtain rfl:cs=[.int .i64 x.st.B,l,m,n,o,p,q]:=by
  have:Value.agg #[.int .i64 x.st.B,l,m,n,o,p,q]= .agg cs.toArray:=z;have:=Ach Array.toList (Value.agg.inj this);simpa using this.symm
 exact uI u k j y
def OA {f:Int→Nat}{vs:List (Int×DL)}{i:Int}:(if true=true then Value.tuple #[vO ((Lr (Value.int .i64) (OB f vs) i).getD none),.bool (Lr (Value.int .i64) (OB f vs) i).isSome] else vO ((Lr (Value.int .i64) (OB f vs) i).getD none))= .tuple #[vO ((CV vs i).map λ_=>f i),.bool (CV vs i).isSome]:=by
 rw[X0];cases CV vs i<;>rfl
def aK {f:Int→Nat}{vs:List (Int×DL)}{i:Int}:(if false=true then Value.tuple #[vO ((Lr (Value.int .i64) (OB f vs) i).getD none),.bool (Lr (Value.int .i64) (OB f vs) i).isSome] else vO ((Lr (Value.int .i64) (OB f vs) i).getD none))=vO ((CV vs i).map λ_=>f i):=by
 rw[X0];cases CV vs i<;>rfl
def Xz {f:Int→Nat}{vs:List (Int×DL)}:(OB f vs).length=vs.length:=by simp [OB]
def st0:AI:=⟨0,[],[],[],[],[],[]⟩
def qO {S:Nat→Prop}{h:AS}:Rd S h BU (.agg #[.int .i64 0,.slice none 0 0,.slice none 0 0,.slice none 0 0,.slice none 0 0,.slice none 0 0,.slice none 0 0]) st0:=
 BU.mk (x:=st0) ⟨by decide,by decide⟩ (.inl ⟨rfl,rfl⟩) (.inl ⟨rfl,rfl⟩) (.inl ⟨rfl,rfl⟩) (.inl ⟨rfl,rfl⟩) (.inl ⟨rfl,rfl⟩) (.inl ⟨rfl,rfl⟩)
def uJ {S:Nat→Prop}{L:List HP}{h:AS}{H:HP}{TT T E b a:Nat}{t:Eu}{f:Int→Nat}{v1 c d g i j k l:Value}(m:AA t.cr) (n:(t.vs.map (·.1)).Nodup) (o:Rd S h B3 (.agg #[.string t.bas.F,v1,.int .i64 t.bas.K,c,d,g,i,j,k,l,.int .i64 t.bas.L]) t.bas) (p:St S (H::Bx b TT [.string t.bas.F,v1,.int .i64 t.bas.K,c,d,g,i,j,k,l,.int .i64 t.bas.L,.map (some a),.int .i64 t.cr]::MP (Value.int .i64) vO a (OB f t.vs)::(MD T E f t.vs++L)) h):St S (H::OP TT T E (.pointer (some ⟨b,0,none⟩)) (some t)::L) h:=by
 have q:=St.mid (M:=Bx b TT [.string t.bas.F,v1,.int .i64 t.bas.K,c,d,g,i,j,k,l,.int .i64 t.bas.L,.map (some a),.int .i64 t.cr]::MP (Value.int .i64) vO a (OB f t.vs)::MD T E f t.vs) p;exact(PZ m n o q).pick (.tail .head)
def LV (vs:List (Int×DL)) (ks:List Int):List (Int×DL):=ks.filterMap λi=>(CV vs i).map λx=>(i,{ x with kids:=x.kids.filter λk=>ks.contains k})
def MJ (vs:List (Int×DL)) (p:Int) (x:DL):List (Int×DL):=vs.map λe=>if e.1=p then (p,x) else e
def ZT {P Q:List (Int×DL)}{p:Int}{x y:DL}(c:((P++(p,x)::Q).map (·.1)).Nodup):MJ (P++(p,x)::Q) p y=P++(p,y)::Q:=by
 rw[Adw,Acz,Afb] at c;obtain⟨_,a,d⟩:=c;have a:=Aet.1 a;have g:P.map (λe=>if e.1=p then (p,y) else e)=P:=by
  conv=>rhs;rw[←List.map_id P]
  refine Ae5 λe b=>?_;rw[Ace λh=>d e.1 (Adb.2 ⟨e,b,rfl⟩) p (by simp) h];rfl
 have i:Q.map (λe=>if e.1=p then (p,y) else e)=Q:=by
  conv=>rhs;rw[←List.map_id Q]
  refine Ae5 λe b=>?_;rw[Ace λh=>a.1 (Adb.2 ⟨e,b,h⟩)];rfl
 unfold MJ;rw[Adw,Acz,Acf rfl,g,i]
def ZU {P Q:List (Int×DL)}{p k:Int}{x y:DL}(a:k≠p) (h:CV (P++(p,x)::Q) k=some y):CV (P++Q) k=some y:=by
 unfold CV at h ⊢;rw[Afn,Ae4,Ack (λe=>a e.symm)] at h;rw[Afn];exact h
def iX {f:Int→Nat}{vs:List (Int×DL)}{c:Int}{b:Nat}{x:DL}(a:CV vs c=none):Og (Value.int .i64) (OB f vs) c (some b)=OB (λi=>if i=c then b else f i) (vs++[(c,x)]):=by
 induction vs with
 |nil=>simp [OB,Og]
 |cons e vs d=>
  unfold CV at a d;rw[Ae4] at a;by_cases h:e.1=c
  ·rw[Acx h] at a;cases a
  ·rw[Ack h] at a;have d:=d a;have j:LB (Value.int .i64 c) (Value.int .i64 e.1)=false:=by
    cases g:LB (Value.int .i64 c) (Value.int .i64 e.1) with
    |false=>rfl
    |true=>simp [LB,Vs] at g;exact absurd g.symm h
   simp only[OB,Acz,Og,j,Acu,Ace h,Aeb,Aec] at d ⊢;rw[d]
def X1 {T E:Nat}{f:Int→Nat}{vs:List (Int×DL)}{c:Int}{b:Nat}(a:∀e∈vs,e.1≠c):MD T E (λi=>if i=c then b else f i) vs=MD T E f vs:=by
 unfold MD;exact Ae5 λe d=>by show VB T E (if e.1=c then b else f e.1) e.2=_;rw[Ace (a e d)]
def iW {f:Int→Nat}{P Q:List (Int×DL)}{p:Int}{x y:DL}:OB f (P++(p,x)::Q)=OB f (P++(p,y)::Q):=by simp [OB]
def ZV {vs:List (Int×DL)}{c:Int}(h:CV vs c=none):∀e∈vs,e.1≠c:=λe a b=>by
 unfold CV at h;have:=List.find?_eq_none.1 (Option.map_eq_none_iff.1 h) e a;simp [b] at this
open Go.Proofs.Tryz
def aD:FM prog 31=some [.string ByteArray.empty,.slice none 0 0,.int .i64 0,.slice none 0 0,.slice none 0 0,.slice none 0 0,.slice none 0 0,.slice none 0 0,.slice none 0 0,.slice none 0 0,.int .i64 0]:=by kernel_rfl
def fF:Nc prog 22=some (9,1,16,[.string ByteArray.empty]):=by kernel_rfl
def qL:Sz prog 129=some ([(0,1),(1,1)],[.int .i64 0,.int .i64 0]):=by kernel_rfl
def Xa:Nc prog 130=some (129,2,16,[.int .i64 0,.int .i64 0]):=by kernel_rfl
def JU:Nc prog 29=some (3,1,8,[.int .i64 0]):=by kernel_rfl
def qK:Sz prog 133=some ([(0,1),(1,1),(2,1),(3,1),(4,1),(5,1),(6,1),(7,1),(8,1),(9,1),(10,1),(11,1)],[.string ByteArray.empty,.int .i64 0,.int .i64 0,.int .i64 0,.slice none 0 0,.slice none 0 0,.int .i64 0,.int .i64 0,.int .i64 0,.int .i64 0,.int .i64 0,.slice none 0 0]):=by kernel_rfl
def fE:Nc prog 23=some (133,12,152,[.string ByteArray.empty,.int .i64 0,.int .i64 0,.int .i64 0,.slice none 0 0,.slice none 0 0,.int .i64 0,.int .i64 0,.int .i64 0,.int .i64 0,.int .i64 0,.slice none 0 0]):=by kernel_rfl
def wL:Sz prog 31=some ([(0,1),(1,1),(2,1),(3,1),(4,1),(5,1),(6,1),(7,1),(8,1),(9,1),(10,1)],[.string ByteArray.empty,.slice none 0 0,.int .i64 0,.slice none 0 0,.slice none 0 0,.slice none 0 0,.slice none 0 0,.slice none 0 0,.slice none 0 0,.slice none 0 0,.int .i64 0]):=by kernel_rfl
def zH:BJ prog 34=true:=by kernel_rfl
def Ou:FM prog 36=some [.int .i64 0,.slice none 0 0,.slice none 0 0,.slice none 0 0,.slice none 0 0,.slice none 0 0,.slice none 0 0]:=by kernel_rfl
def mo:prog.follows .mixedOrders=true:=by kernel_rfl
def nK:Sz prog 36=some ([(0,1),(1,1),(2,1),(3,1),(4,1),(5,1),(6,1)],[.int .i64 0,.slice none 0 0,.slice none 0 0,.slice none 0 0,.slice none 0 0,.slice none 0 0,.slice none 0 0]):=by kernel_rfl
def Wk:Nc prog 32=some (29,1,24,[.slice none 0 0]):=by kernel_rfl
def fD:Nc prog 34=some (107,4,24,[.int .i64 0,.int .i64 0,.bool false,.bool false]):=by kernel_rfl
def aS:∃e,prog.underlying 29=some (.slice e):=⟨3,by kernel_rfl⟩
def QL:FM prog 133=some [.string ByteArray.empty,.int .i64 0,.int .i64 0,.int .i64 0,.slice none 0 0,.slice none 0 0,.int .i64 0,.int .i64 0,.int .i64 0,.int .i64 0,.int .i64 0,.slice none 0 0]:=by kernel_rfl
def NN:BJ prog 73=true:=by kernel_rfl
def Tw:prog.underlying 9=some .string:=by kernel_rfl
def Hw:BJ prog 143=true:=by kernel_rfl
def KD:BJ prog 144=true:=by kernel_rfl
def pD:FM prog 225=some [.map none]:=by kernel_rfl
def Aao:FM prog 4=some [.bool false]:=by kernel_rfl
def qE:Sz prog 261=some ([(0,1),(1,1)],[.string ByteArray.empty,.string ByteArray.empty]):=by kernel_rfl
def pB:FM prog 261=some [.string ByteArray.empty,.string ByteArray.empty]:=by kernel_rfl
def sT:BJ prog 200=true:=by kernel_rfl
def bB:prog.underlying 225=some (.map 261 4):=by kernel_rfl
def rQ:eR prog 261=some [3,3]:=by kernel_rfl
def YZ:NR prog 261 (λk:AG=>Value.agg (AG.v k).toArray):=NR.agg (f:=AG.v) underlying261 rQ (λk=>rfl) (λa b=>rfl) (λk e w=>by kernel_rfl) (λa b c=>by
 simp only[AG.v,RE,Vs,Acj,VQ,Ac1,beq_iff_eq] at c;simp [AG.v,c]) (λa=>by simp [Instr.sameBits,AG.v,VQ.2])
def Aan:∀w,(zeroValue 4).run prog w= .ok (.bool false) w:=λw=>by kernel_rfl
def tH:BJ prog 146=true:=by kernel_rfl
def Qd:BJ prog 145=true:=by kernel_rfl
def Ov:FM prog 139=some [.string ByteArray.empty,.int .i64 0,.int .i64 0,.int .i64 0,.slice none 0 0,.slice none 0 0,.slice none 0 0,.int .i64 0,.int .i64 0,.int .i64 0,.int .i64 0,.int .i64 0,.int .i64 0,.int .i64 0,.int .i64 0,.int .i64 0,.int .i64 0,.int .i64 0]:=by kernel_rfl
def aH:FM prog 215=some [.string ByteArray.empty,.int .i64 0,.int .i64 0,.int .i64 0,.int .i64 0,.int .i64 0,.int .i64 0]:=by kernel_rfl
def aE:FM prog 224=some [.string ByteArray.empty,.int .i64 0]:=by kernel_rfl
def aG:FM prog 218=some [.string ByteArray.empty,.int .i64 0,.int .i64 0,.int .i64 0,.int .i64 0]:=by kernel_rfl
def aF:FM prog 221=some [.string ByteArray.empty,.int .i64 0,.int .i64 0,.int .i64 0,.int .i64 0,.int .i64 0,.int .i64 0]:=by kernel_rfl
def Uq:FM prog 129=some [.int .i64 0,.int .i64 0]:=by kernel_rfl
def Qb:BJ prog 150=true:=by kernel_rfl
def Qc:BJ prog 147=true:=by kernel_rfl
def Xf:BJ prog 148=true:=by kernel_rfl
def gI:BJ prog 149=true:=by kernel_rfl
def pE:FM prog 210=some [.int .i64 0,.int .i64 0]:=by kernel_rfl
def RW:prog.underlying 3=some (.int .i64):=by kernel_rfl
def XC:prog.underlying 244=some (.int .u64):=by kernel_rfl
def sJ:BJ prog 242=true:=by kernel_rfl
def sK:BJ prog 241=true:=by kernel_rfl
def Ni:prog.underlying 125=some (.int .u64):=by kernel_rfl
def fX:BJ prog 202=true:=by kernel_rfl
def wH:prog.underlying 5=some (.int .u8):=by kernel_rfl
def sI:BJ prog 243=true:=by kernel_rfl
def sO:BJ prog 228=true:=by kernel_rfl
def fW:BJ prog 203=true:=by kernel_rfl
def Td:BJ prog 195=true:=by kernel_rfl
def Xe:BJ prog 227=true:=by kernel_rfl
def fY:BJ prog 201=true:=by kernel_rfl
def tG:BJ prog 151=true:=by kernel_rfl
def tF:BJ prog 152=true:=by kernel_rfl
def gH:BJ prog 153=true:=by kernel_rfl
def Rm:BJ prog 154=true:=by kernel_rfl
def rZ:Nc prog 264=some (130,1,24,[.slice none 0 0]):=by kernel_rfl
def tE:BJ prog 155=true:=by kernel_rfl
def uF:Aaf prog 232=some ([(0,1),(1,1),(2,1)],[.int .i64 0,.int .i64 0,.int .i64 0]):=by kernel_rfl
def pC:FM prog 232=some [.int .i64 0,.int .i64 0,.int .i64 0]:=by kernel_rfl
def uD:Abd prog 232 3 1=true:=by kernel_rfl
def yO:BJ prog 74=true:=by kernel_rfl
def yN:BJ prog 75=true:=by kernel_rfl
def yM:BJ prog 76=true:=by kernel_rfl
def yL:BJ prog 77=true:=by kernel_rfl
def yK:BJ prog 78=true:=by kernel_rfl
def yJ:BJ prog 79=true:=by kernel_rfl
def yI:BJ prog 80=true:=by kernel_rfl
def yH:BJ prog 81=true:=by kernel_rfl
def yG:BJ prog 82=true:=by kernel_rfl
def Sm:FM prog 107=some [.int .i64 0,.int .i64 0,.bool false,.bool false]:=by kernel_rfl
def fV:BJ prog 204=true:=by kernel_rfl
def Wq:BJ prog 63=true:=by kernel_rfl
def gG:BJ prog 156=true:=by kernel_rfl
def QD:BJ prog 31=true:=by kernel_rfl
def Sn:FM prog 103=some [.int .i64 0,.int .i64 0,.slice none 0 0]:=by kernel_rfl
def PJ:BJ prog 113=true:=by kernel_rfl
def yF:BJ prog 83=true:=by kernel_rfl
def oK:BJ prog 84=true:=by kernel_rfl
def aR:∃e,prog.underlying 32=some (.slice e):=⟨29,by kernel_rfl⟩
def tR:BJ prog 132=true:=by kernel_rfl
def aQ:∃e,prog.underlying 33=some (.slice e):=⟨103,by kernel_rfl⟩
def SE:Nc prog 33=some (103,3,40,[.int .i64 0,.int .i64 0,.slice none 0 0]):=by kernel_rfl
def tQ:BJ prog 133=true:=by kernel_rfl
def aP:∃e,prog.underlying 34=some (.slice e):=⟨107,by kernel_rfl⟩
def gJ:BJ prog 112=true:=by kernel_rfl
def aZ:∃e,prog.underlying 22=some (.slice e):=⟨9,by kernel_rfl⟩
def tP:BJ prog 134=true:=by kernel_rfl
def aY:∃e,prog.underlying 23=some (.slice e):=⟨133,by kernel_rfl⟩
def tO:BJ prog 135=true:=by kernel_rfl
def X6:∃e,prog.underlying 130=some (.slice e):=⟨129,by kernel_rfl⟩
def X5:∃e,prog.underlying 131=some (.slice e):=⟨210,by kernel_rfl⟩
def fG:Nc prog 131=some (210,2,16,[.int .i64 0,.int .i64 0]):=by kernel_rfl
def VO:BJ prog 136=true:=by kernel_rfl
def tN:BJ prog 137=true:=by kernel_rfl
def aX:∃e,prog.underlying 24=some (.slice e):=⟨139,by kernel_rfl⟩
def oH:Nc prog 24=some (139,18,200,[.string ByteArray.empty,.int .i64 0,.int .i64 0,.int .i64 0,.slice none 0 0,.slice none 0 0,.slice none 0 0,.int .i64 0,.int .i64 0,.int .i64 0,.int .i64 0,.int .i64 0,.int .i64 0,.int .i64 0,.int .i64 0,.int .i64 0,.int .i64 0,.int .i64 0]):=by kernel_rfl
def tM:BJ prog 138=true:=by kernel_rfl
def aW:∃e,prog.underlying 25=some (.slice e):=⟨215,by kernel_rfl⟩
def oG:Nc prog 25=some (215,7,64,[.string ByteArray.empty,.int .i64 0,.int .i64 0,.int .i64 0,.int .i64 0,.int .i64 0,.int .i64 0]):=by kernel_rfl
def tL:BJ prog 139=true:=by kernel_rfl
def aV:∃e,prog.underlying 26=some (.slice e):=⟨218,by kernel_rfl⟩
def oF:Nc prog 26=some (218,5,48,[.string ByteArray.empty,.int .i64 0,.int .i64 0,.int .i64 0,.int .i64 0]):=by kernel_rfl
def tK:BJ prog 140=true:=by kernel_rfl
def aU:∃e,prog.underlying 27=some (.slice e):=⟨221,by kernel_rfl⟩
def oE:Nc prog 27=some (221,7,64,[.string ByteArray.empty,.int .i64 0,.int .i64 0,.int .i64 0,.int .i64 0,.int .i64 0,.int .i64 0]):=by kernel_rfl
def tJ:BJ prog 141=true:=by kernel_rfl
def aT:∃e,prog.underlying 28=some (.slice e):=⟨224,by kernel_rfl⟩
def oD:Nc prog 28=some (224,2,24,[.string ByteArray.empty,.int .i64 0]):=by kernel_rfl
def tI:BJ prog 142=true:=by kernel_rfl
def nJ:Sz prog 93=some ([(0,1),(1,5),(6,7),(13,1)],[.int .i64 0,.slice none 0 0,.slice none 0 0,.slice none 0 0,.slice none 0 0,.slice none 0 0,.int .i64 0,.slice none 0 0,.slice none 0 0,.slice none 0 0,.slice none 0 0,.slice none 0 0,.slice none 0 0,.slice none 0 0]):=by kernel_rfl
def wK:Sz prog 91=some ([(0,11),(11,1),(12,1)],[.string ByteArray.empty,.slice none 0 0,.int .i64 0,.slice none 0 0,.slice none 0 0,.slice none 0 0,.slice none 0 0,.slice none 0 0,.slice none 0 0,.slice none 0 0,.int .i64 0,.map none,.int .i64 0]):=by kernel_rfl
def oN:BJ prog 37=true:=by kernel_rfl
def oM:BJ prog 38=true:=by kernel_rfl
def yQ:BJ prog 71=true:=by kernel_rfl
def yP:BJ prog 72=true:=by kernel_rfl
def zE:BJ prog 40=true:=by kernel_rfl
def zF:BJ prog 39=true:=by kernel_rfl
def oQ:BJ prog 28=true:=by kernel_rfl
def zD:BJ prog 41=true:=by kernel_rfl
def MH:prog.underlying 89=some (.map 3 87):=by kernel_rfl
def Nb:NR prog 3 (Value.int .i64):=NR.int (by kernel_rfl) (λs e w=>by kernel_rfl)
def Nh:∀w,(zeroValue 87).run prog w= .ok (vO none) w:=λw=>by kernel_rfl
def Xx:FM prog 50=some [.slice none 0 0,.slice none 0 0,.slice none 0 0,.slice none 0 0,.slice none 0 0]:=by kernel_rfl
def oL:BJ prog 55=true:=by kernel_rfl
def yX:BJ prog 54=true:=by kernel_rfl
def gK:BJ prog 111=true:=by kernel_rfl
def mX:prog.underlying 87=some (.pointer 93):=by kernel_rfl
def dV:((prog.info? 93).map (·.size)).isSome=true:=by kernel_rfl
def pP:prog.underlying 29=some (.slice 3):=by kernel_rfl
def vU:∀w,(zeroValue 3).run prog w= .ok (.int .i64 0) w:=λw=>by kernel_rfl
def vV:FM prog 89=some [.map none]:=by kernel_rfl
def zG:BJ prog 36=true:=by kernel_rfl
def oO:BJ prog 35=true:=by kernel_rfl
def mY:prog.underlying 40=some (.pointer 91):=by kernel_rfl
def dW:((prog.info? 91).map (·.size)).isSome=true:=by kernel_rfl
def UI:Sz prog 50=some ([(0,1),(1,1),(2,1),(3,1),(4,1)],[.slice none 0 0,.slice none 0 0,.slice none 0 0,.slice none 0 0,.slice none 0 0]):=by kernel_rfl
def Uj:BJ prog 49=true:=by kernel_rfl
def rV:eR prog 148=some [1,1]:=by kernel_rfl
def tD:BJ prog 157=true:=by kernel_rfl
def rU:eR prog 153=some [1,1]:=by kernel_rfl
def tC:BJ prog 158=true:=by kernel_rfl
def rS:eR prog 158=some [1,1,1,1]:=by kernel_rfl
def tB:BJ prog 159=true:=by kernel_rfl
def rR:eR prog 163=some [1,1,1,1]:=by kernel_rfl
def tA:BJ prog 160=true:=by kernel_rfl
def qJ:Sz prog 145=some ([(0,1),(1,1)],[.slice none 0 0,.slice none 0 0]):=by kernel_rfl
def yE:BJ prog 85=true:=by kernel_rfl
def qI:Sz prog 150=some ([(0,1),(1,1)],[.slice none 0 0,.slice none 0 0]):=by kernel_rfl
def yD:BJ prog 86=true:=by kernel_rfl
def qH:Sz prog 155=some ([(0,1),(1,1)],[.slice none 0 0,.slice none 0 0]):=by kernel_rfl
def yC:BJ prog 87=true:=by kernel_rfl
def qG:Sz prog 160=some ([(0,1),(1,1)],[.slice none 0 0,.slice none 0 0]):=by kernel_rfl
def yB:BJ prog 88=true:=by kernel_rfl
def qF:Sz prog 165=some ([(0,1),(1,1)],[.slice none 0 0,.slice none 0 0]):=by kernel_rfl
def yA:BJ prog 89=true:=by kernel_rfl
def aO:∃e,prog.underlying 45=some (.slice e):=⟨148,by kernel_rfl⟩
def oC:Nc prog 45=some (148,2,16,[.int .i64 0,.int .i64 0]):=by kernel_rfl
def aN:∃e,prog.underlying 46=some (.slice e):=⟨153,by kernel_rfl⟩
def oA:Nc prog 46=some (153,2,16,[.int .i64 0,.int .i64 0]):=by kernel_rfl
def aM:∃e,prog.underlying 47=some (.slice e):=⟨158,by kernel_rfl⟩
def nZ:Nc prog 47=some (158,4,32,[.int .i64 0,.int .i64 0,.int .i64 0,.int .i64 0]):=by kernel_rfl
def aL:∃e,prog.underlying 48=some (.slice e):=⟨163,by kernel_rfl⟩
def nY:Nc prog 48=some (163,4,32,[.int .i64 0,.int .i64 0,.int .i64 0,.int .i64 0]):=by kernel_rfl
def xZ:BJ prog 90=true:=by kernel_rfl
def xY:BJ prog 91=true:=by kernel_rfl
def xX:BJ prog 92=true:=by kernel_rfl
def xW:BJ prog 93=true:=by kernel_rfl
def yW:BJ prog 57=true:=by kernel_rfl
def qM:Sz prog 112=some ([(0,11),(11,5),(16,7),(23,1),(24,1),(25,1)],[.string ByteArray.empty,.slice none 0 0,.int .i64 0,.slice none 0 0,.slice none 0 0,.slice none 0 0,.slice none 0 0,.slice none 0 0,.slice none 0 0,.slice none 0 0,.int .i64 0,.slice none 0 0,.slice none 0 0,.slice none 0 0,.slice none 0 0,.slice none 0 0,.int .i64 0,.slice none 0 0,.slice none 0 0,.slice none 0 0,.slice none 0 0,.slice none 0 0,.slice none 0 0,.slice none 0 0,.slice none 0 0,.slice none 0 0]):=by kernel_rfl
def pK:FM prog 112=some [.string ByteArray.empty,.slice none 0 0,.int .i64 0,.slice none 0 0,.slice none 0 0,.slice none 0 0,.slice none 0 0,.slice none 0 0,.slice none 0 0,.slice none 0 0,.int .i64 0,.slice none 0 0,.slice none 0 0,.slice none 0 0,.slice none 0 0,.slice none 0 0,.int .i64 0,.slice none 0 0,.slice none 0 0,.slice none 0 0,.slice none 0 0,.slice none 0 0,.slice none 0 0,.slice none 0 0,.slice none 0 0,.slice none 0 0]:=by kernel_rfl
def pJ:FM prog 148=some [.int .i64 0,.int .i64 0]:=by kernel_rfl
def uB:BJ prog 114=true:=by kernel_rfl
def Yr:BJ prog 14=true:=by kernel_rfl
def pI:FM prog 153=some [.int .i64 0,.int .i64 0]:=by kernel_rfl
def uA:BJ prog 115=true:=by kernel_rfl
def Te:BJ prog 187=true:=by kernel_rfl
def tZ:BJ prog 116=true:=by kernel_rfl
def yV:BJ prog 58=true:=by kernel_rfl
def gC:BJ prog 188=true:=by kernel_rfl
def pG:FM prog 163=some [.int .i64 0,.int .i64 0,.int .i64 0,.int .i64 0]:=by kernel_rfl
def tY:BJ prog 117=true:=by kernel_rfl
def yU:BJ prog 59=true:=by kernel_rfl
def bZ:Sz prog 116=some ([(0,1),(1,1),(2,1),(3,1),(4,1)],[.int .i64 0,.int .i64 0,.int .i64 0,.int .i64 0,.slice none 0 0]):=by kernel_rfl
def Yn:Nc prog 71=some (116,5,56,[.int .i64 0,.int .i64 0,.int .i64 0,.int .i64 0,.slice none 0 0]):=by kernel_rfl
def yT:BJ prog 60=true:=by kernel_rfl
def Xh:BJ prog 119=true:=by kernel_rfl
def cA:Sz prog 103=some ([(0,1),(1,1),(2,1)],[.int .i64 0,.int .i64 0,.slice none 0 0]):=by kernel_rfl
def tX:BJ prog 118=true:=by kernel_rfl
def tW:BJ prog 120=true:=by kernel_rfl
def yS:BJ prog 61=true:=by kernel_rfl
def fU:BJ prog 221=true:=by kernel_rfl
def sX:BJ prog 191=true:=by kernel_rfl
def pH:FM prog 158=some [.int .i64 0,.int .i64 0,.int .i64 0,.int .i64 0]:=by kernel_rfl
def Rb:Sz prog 194=some ([(0,1),(1,1),(2,1),(3,1)],[.int .i64 0,.int .i64 0,.int .i64 0,.nilFunc]):=by kernel_rfl
def sY:BJ prog 190=true:=by kernel_rfl
def Nl:Nc prog 190=some (194,4,32,[.int .i64 0,.int .i64 0,.int .i64 0,.nilFunc]):=by kernel_rfl
def tU:BJ prog 122=true:=by kernel_rfl
def Tb:BJ prog 236=true:=by kernel_rfl
def sM:BJ prog 238=true:=by kernel_rfl
def sN:BJ prog 237=true:=by kernel_rfl
def sS:BJ prog 222=true:=by kernel_rfl
def mU:FM prog 29=some [.slice none 0 0]:=by kernel_rfl
def xP:Aa9 prog 29=true:=by kernel_rfl
def sL:BJ prog 239=true:=by kernel_rfl
def sP:BJ prog 226=true:=by kernel_rfl
def sU:BJ prog 197=true:=by kernel_rfl
def fT:BJ prog 223=true:=by kernel_rfl
def sW:BJ prog 192=true:=by kernel_rfl
def Tf:BJ prog 126=true:=by kernel_rfl
def Tc:BJ prog 196=true:=by kernel_rfl
def gB:BJ prog 193=true:=by kernel_rfl
def tT:BJ prog 123=true:=by kernel_rfl
def sA:Nc prog 248=some (190,1,24,[.slice none 0 0]):=by kernel_rfl
def Aat:prog.underlying 3=some (.int .i64):=by kernel_rfl
def sZ:BJ prog 189=true:=by kernel_rfl
def tV:BJ prog 121=true:=by kernel_rfl
def sQ:BJ prog 225=true:=by kernel_rfl
def sR:BJ prog 224=true:=by kernel_rfl
def sV:BJ prog 194=true:=by kernel_rfl
def pF:FM prog 194=some [.int .i64 0,.int .i64 0,.int .i64 0,.nilFunc]:=by kernel_rfl
def Xg:BJ prog 124=true:=by kernel_rfl
def tS:BJ prog 125=true:=by kernel_rfl
def yR:BJ prog 62=true:=by kernel_rfl
def Uk:BJ prog 11=true:=by kernel_rfl
def gE:BJ prog 18=true:=by kernel_rfl
def Yq:BJ prog 16=true:=by kernel_rfl
def zI:BJ prog 15=true:=by kernel_rfl
def oR:BJ prog 24=true:=by kernel_rfl
def Ws:BJ prog 12=true:=by kernel_rfl
def Wr:BJ prog 13=true:=by kernel_rfl
def zC:BJ prog 47=true:=by kernel_rfl
def fZ:BJ prog 20=true:=by kernel_rfl
def Abc:BJ prog 8=true:=by kernel_rfl
def Abb:BJ prog 9=true:=by kernel_rfl
def zJ:BJ prog 10=true:=by kernel_rfl
def Mb:Nc prog 75=some (76,1,24,[.slice none 0 0]):=by kernel_rfl
def vW:FM prog 52=some [.int .i64 0,.int .i64 0,.int .i64 0,.slice none 0 0,.slice none 0 0,.slice none 0 0,.slice none 0 0,.slice none 0 0,.slice none 0 0]:=by kernel_rfl
def Jh:Nc prog 76=some (50,5,120,[.slice none 0 0,.slice none 0 0,.slice none 0 0,.slice none 0 0,.slice none 0 0]):=by kernel_rfl
def rW:eR prog 107=some [1,1,2,2]:=by kernel_rfl
def zB:BJ prog 48=true:=by kernel_rfl
def yZ:BJ prog 51=true:=by kernel_rfl
def zA:BJ prog 50=true:=by kernel_rfl
def yY:BJ prog 52=true:=by kernel_rfl
def oP:BJ prog 29=true:=by kernel_rfl
def oU:BJ prog 22=true:=by kernel_rfl
instance kO:Gn Tryz.prog 31 3 3:=⟨by kernel_rfl⟩
instance kN:Gn Tryz.prog 31 4 4:=⟨by kernel_rfl⟩
instance kQ:Gn Tryz.prog 31 1 1:=⟨by kernel_rfl⟩
instance VG:Gn Tryz.prog 36 1 1:=⟨by kernel_rfl⟩
instance Wh:Gn Tryz.prog 133 5 5:=⟨by kernel_rfl⟩
instance VH:Gn Tryz.prog 31 0 0:=⟨by kernel_rfl⟩
instance kP:Gn Tryz.prog 31 2 2:=⟨by kernel_rfl⟩
instance kM:Gn Tryz.prog 31 5 5:=⟨by kernel_rfl⟩
instance kL:Gn Tryz.prog 31 6 6:=⟨by kernel_rfl⟩
instance kK:Gn Tryz.prog 31 7 7:=⟨by kernel_rfl⟩
instance kJ:Gn Tryz.prog 31 8 8:=⟨by kernel_rfl⟩
instance Yk:Gn Tryz.prog 31 9 9:=⟨by kernel_rfl⟩
instance eU:Gn Tryz.prog 31 10 10:=⟨by kernel_rfl⟩
instance:Gn Tryz.prog 133 0 0:=⟨by kernel_rfl⟩
instance:Gn Tryz.prog 139 0 0:=⟨by kernel_rfl⟩
instance:Gn Tryz.prog 215 0 0:=⟨by kernel_rfl⟩
instance:Gn Tryz.prog 224 0 0:=⟨by kernel_rfl⟩
instance:Gn Tryz.prog 218 0 0:=⟨by kernel_rfl⟩
instance:Gn Tryz.prog 221 0 0:=⟨by kernel_rfl⟩
instance:Gn Tryz.prog 129 0 0:=⟨by kernel_rfl⟩
instance:Gn Tryz.prog 129 1 1:=⟨by kernel_rfl⟩
instance:Gn Tryz.prog 133 1 1:=⟨by kernel_rfl⟩
instance:Gn Tryz.prog 133 2 2:=⟨by kernel_rfl⟩
instance:Gn Tryz.prog 133 9 9:=⟨by kernel_rfl⟩
instance:Gn Tryz.prog 133 3 3:=⟨by kernel_rfl⟩
instance:Gn Tryz.prog 133 10 10:=⟨by kernel_rfl⟩
instance Wi:Gn Tryz.prog 133 4 4:=⟨by kernel_rfl⟩
instance:Gn Tryz.prog 133 6 6:=⟨by kernel_rfl⟩
instance:Gn Tryz.prog 133 7 7:=⟨by kernel_rfl⟩
instance:Gn Tryz.prog 133 8 8:=⟨by kernel_rfl⟩
instance Ud:Gn Tryz.prog 133 11 11:=⟨by kernel_rfl⟩
instance:Gn Tryz.prog 210 0 0:=⟨by kernel_rfl⟩
instance:Gn Tryz.prog 210 1 1:=⟨by kernel_rfl⟩
instance:Gn Tryz.prog 139 1 1:=⟨by kernel_rfl⟩
instance We:Gn Tryz.prog 139 4 4:=⟨by kernel_rfl⟩
instance RC:Gn Tryz.prog 139 5 5:=⟨by kernel_rfl⟩
instance Wg:Gn Tryz.prog 137 0 0:=⟨by kernel_rfl⟩
instance Wf:Gn Tryz.prog 137 1 1:=⟨by kernel_rfl⟩
instance:Gn Tryz.prog 139 6 7:=⟨by kernel_rfl⟩
instance:Gn Tryz.prog 139 7 8:=⟨by kernel_rfl⟩
instance:Gn Tryz.prog 139 8 9:=⟨by kernel_rfl⟩
instance:Gn Tryz.prog 139 14 15:=⟨by kernel_rfl⟩
instance:Gn Tryz.prog 139 15 16:=⟨by kernel_rfl⟩
instance:Gn Tryz.prog 139 3 3:=⟨by kernel_rfl⟩
instance:Gn Tryz.prog 139 9 10:=⟨by kernel_rfl⟩
instance:Gn Tryz.prog 139 10 11:=⟨by kernel_rfl⟩
instance:Gn Tryz.prog 139 11 12:=⟨by kernel_rfl⟩
instance:Gn Tryz.prog 139 12 13:=⟨by kernel_rfl⟩
instance:Gn Tryz.prog 139 13 14:=⟨by kernel_rfl⟩
instance:Gn Tryz.prog 139 2 2:=⟨by kernel_rfl⟩
instance:Gn Tryz.prog 139 16 17:=⟨by kernel_rfl⟩
instance:Gn Tryz.prog 215 1 1:=⟨by kernel_rfl⟩
instance:Gn Tryz.prog 215 2 2:=⟨by kernel_rfl⟩
instance:Gn Tryz.prog 215 3 3:=⟨by kernel_rfl⟩
instance:Gn Tryz.prog 215 4 4:=⟨by kernel_rfl⟩
instance:Gn Tryz.prog 215 5 5:=⟨by kernel_rfl⟩
instance:Gn Tryz.prog 215 6 6:=⟨by kernel_rfl⟩
instance:Gn Tryz.prog 224 1 1:=⟨by kernel_rfl⟩
instance:Gn Tryz.prog 218 1 1:=⟨by kernel_rfl⟩
instance:Gn Tryz.prog 218 3 3:=⟨by kernel_rfl⟩
instance:Gn Tryz.prog 218 4 4:=⟨by kernel_rfl⟩
instance:Gn Tryz.prog 218 2 2:=⟨by kernel_rfl⟩
instance:Gn Tryz.prog 221 1 1:=⟨by kernel_rfl⟩
instance:Gn Tryz.prog 221 2 2:=⟨by kernel_rfl⟩
instance:Gn Tryz.prog 221 3 3:=⟨by kernel_rfl⟩
instance:Gn Tryz.prog 221 4 4:=⟨by kernel_rfl⟩
instance:Gn Tryz.prog 221 6 6:=⟨by kernel_rfl⟩
instance:Gn Tryz.prog 221 5 5:=⟨by kernel_rfl⟩
instance kH:Gn Tryz.prog 36 0 0:=⟨by kernel_rfl⟩
instance:Gn Tryz.prog 36 2 2:=⟨by kernel_rfl⟩
instance:Gn Tryz.prog 36 4 4:=⟨by kernel_rfl⟩
instance:Gn Tryz.prog 36 5 5:=⟨by kernel_rfl⟩
instance:Gn Tryz.prog 36 6 6:=⟨by kernel_rfl⟩
instance:Gn Tryz.prog 107 0 0:=⟨by kernel_rfl⟩
instance:Gn Tryz.prog 107 1 1:=⟨by kernel_rfl⟩
instance:Gn Tryz.prog 107 3 3:=⟨by kernel_rfl⟩
instance:Gn Tryz.prog 36 3 3:=⟨by kernel_rfl⟩
instance:Gn Tryz.prog 103 0 0:=⟨by kernel_rfl⟩
instance:Gn Tryz.prog 103 1 1:=⟨by kernel_rfl⟩
instance Wj:Gn Tryz.prog 103 2 2:=⟨by kernel_rfl⟩
instance Kx:Gn Tryz.prog 91 1 11:=⟨by kernel_rfl⟩
instance Sh:Gn Tryz.prog 91 2 12:=⟨by kernel_rfl⟩
instance kF:Gn Tryz.prog 91 0 0:=⟨by kernel_rfl⟩
instance Yh:Gn Tryz.prog 93 0 0:=⟨by kernel_rfl⟩
instance kD:Gn Tryz.prog 93 1 1:=⟨by kernel_rfl⟩
instance VF:Gn Tryz.prog 93 2 6:=⟨by kernel_rfl⟩
instance RA:Gn Tryz.prog 93 3 13:=⟨by kernel_rfl⟩
instance:Gn Tryz.prog 145 0 0:=⟨by kernel_rfl⟩
instance:Gn Tryz.prog 145 1 1:=⟨by kernel_rfl⟩
instance:Gn Tryz.prog 150 0 0:=⟨by kernel_rfl⟩
instance:Gn Tryz.prog 150 1 1:=⟨by kernel_rfl⟩
instance:Gn Tryz.prog 155 0 0:=⟨by kernel_rfl⟩
instance:Gn Tryz.prog 155 1 1:=⟨by kernel_rfl⟩
instance:Gn Tryz.prog 160 0 0:=⟨by kernel_rfl⟩
instance:Gn Tryz.prog 160 1 1:=⟨by kernel_rfl⟩
instance:Gn Tryz.prog 165 0 0:=⟨by kernel_rfl⟩
instance:Gn Tryz.prog 165 1 1:=⟨by kernel_rfl⟩
instance:Gn Tryz.prog 50 0 0:=⟨by kernel_rfl⟩
instance:Gn Tryz.prog 50 1 1:=⟨by kernel_rfl⟩
instance:Gn Tryz.prog 50 2 2:=⟨by kernel_rfl⟩
instance:Gn Tryz.prog 50 3 3:=⟨by kernel_rfl⟩
instance:Gn Tryz.prog 50 4 4:=⟨by kernel_rfl⟩
instance:Gn Tryz.prog 112 1 11:=⟨by kernel_rfl⟩
instance:Gn Tryz.prog 107 2 2:=⟨by kernel_rfl⟩
instance:Gn Tryz.prog 148 1 1:=⟨by kernel_rfl⟩
instance:Gn Tryz.prog 112 0 0:=⟨by kernel_rfl⟩
instance eY:Gn Tryz.prog 112 2 16:=⟨by kernel_rfl⟩
instance:Gn Tryz.prog 148 0 0:=⟨by kernel_rfl⟩
instance:Gn Tryz.prog 153 0 0:=⟨by kernel_rfl⟩
instance:Gn Tryz.prog 153 1 1:=⟨by kernel_rfl⟩
instance:Gn Tryz.prog 163 0 0:=⟨by kernel_rfl⟩
instance:Gn Tryz.prog 163 1 1:=⟨by kernel_rfl⟩
instance:Gn Tryz.prog 163 2 2:=⟨by kernel_rfl⟩
instance:Gn Tryz.prog 163 3 3:=⟨by kernel_rfl⟩
instance eW:Gn Tryz.prog 112 3 23:=⟨by kernel_rfl⟩
instance eV:Gn Tryz.prog 112 4 24:=⟨by kernel_rfl⟩
instance:Gn Tryz.prog 158 1 1:=⟨by kernel_rfl⟩
instance:Gn Tryz.prog 158 2 2:=⟨by kernel_rfl⟩
instance:Gn Tryz.prog 158 0 0:=⟨by kernel_rfl⟩
instance:Gn Tryz.prog 158 3 3:=⟨by kernel_rfl⟩
instance:Gn Tryz.prog 194 3 3:=⟨by kernel_rfl⟩
instance:Gn Tryz.prog 194 0 0:=⟨by kernel_rfl⟩
instance:Gn Tryz.prog 194 2 2:=⟨by kernel_rfl⟩
instance:Gn Tryz.prog 112 5 25:=⟨by kernel_rfl⟩
instance:Gn Tryz.prog 194 1 1:=⟨by kernel_rfl⟩
instance Yi:Gn Tryz.prog 52 3 3:=⟨by kernel_rfl⟩
instance kG:Gn Tryz.prog 52 4 8:=⟨by kernel_rfl⟩
instance Yj:Gn Tryz.prog 52 0 0:=⟨by kernel_rfl⟩
instance Si:Gn Tryz.prog 52 1 1:=⟨by kernel_rfl⟩
instance NZ:SY Tryz.prog 23 133 12:=⟨by kernel_rfl⟩
instance Ob:SY Tryz.prog 24 139 18:=⟨by kernel_rfl⟩
instance nN:SY Tryz.prog 22 9 1:=⟨by kernel_rfl⟩
instance Jl:SY Tryz.prog 32 29 1:=⟨by kernel_rfl⟩
instance cI:SY Tryz.prog 25 215 7:=⟨by kernel_rfl⟩
instance cH:SY Tryz.prog 26 218 5:=⟨by kernel_rfl⟩
instance cG:SY Tryz.prog 27 221 7:=⟨by kernel_rfl⟩
instance cF:SY Tryz.prog 28 224 2:=⟨by kernel_rfl⟩
instance Ck:SY Tryz.prog 29 3 1:=⟨by kernel_rfl⟩
instance LR:SY Tryz.prog 130 129 2:=⟨by kernel_rfl⟩
instance qQ:SY Tryz.prog 131 210 2:=⟨by kernel_rfl⟩
instance qP:SY Tryz.prog 264 130 1:=⟨by kernel_rfl⟩
instance Oa:SY Tryz.prog 34 107 4:=⟨by kernel_rfl⟩
instance O2:SY Tryz.prog 33 103 3:=⟨by kernel_rfl⟩
instance cE:SY Tryz.prog 45 148 2:=⟨by kernel_rfl⟩
instance cD:SY Tryz.prog 46 153 2:=⟨by kernel_rfl⟩
instance cC:SY Tryz.prog 47 158 4:=⟨by kernel_rfl⟩
instance cB:SY Tryz.prog 48 163 4:=⟨by kernel_rfl⟩
instance cJ:SY Tryz.prog 248 190 1:=⟨by kernel_rfl⟩
instance QQ:SY Tryz.prog 190 194 4:=⟨by kernel_rfl⟩
instance YF:SY Tryz.prog 37 52 9:=⟨by kernel_rfl⟩
instance R3:SY Tryz.prog 75 76 1:=⟨by kernel_rfl⟩
instance nM:SY Tryz.prog 76 50 5:=⟨by kernel_rfl⟩
instance M8:Rr Tryz.prog 31 11:=⟨by kernel_rfl⟩
instance nG:Fc (Kh Tryz.prog 23 1 false=true):=⟨by kernel_rfl⟩
instance nF:Fc (Kh Tryz.prog 24 1 false=true):=⟨by kernel_rfl⟩
instance nH:Fc (Kh Tryz.prog 22 1 false=true):=⟨by kernel_rfl⟩
instance Ij:Rr Tryz.prog 36 7:=⟨by kernel_rfl⟩
instance QO:Rr Tryz.prog 133 12:=⟨by kernel_rfl⟩
instance V1:Fc (Kh Tryz.prog 32 1 false=true):=⟨by kernel_rfl⟩
instance GH:Fc (Kh Tryz.prog 29 1 false=true):=⟨by kernel_rfl⟩
instance pQ:Fc (Kh Tryz.prog 9 1 false=true):=⟨by kernel_rfl⟩
instance Fa:Fc (Kh Tryz.prog 3 1 false=true):=⟨by kernel_rfl⟩
instance nE:Fc (Kh Tryz.prog 25 1 false=true):=⟨by kernel_rfl⟩
instance nD:Fc (Kh Tryz.prog 26 1 false=true):=⟨by kernel_rfl⟩
instance nC:Fc (Kh Tryz.prog 27 1 false=true):=⟨by kernel_rfl⟩
instance nB:Fc (Kh Tryz.prog 28 1 false=true):=⟨by kernel_rfl⟩
instance pT:Fc (Kh Tryz.prog 225 1 false=true):=⟨by kernel_rfl⟩
instance XD:Fc (Kh Tryz.prog 4 1 false=true):=⟨by kernel_rfl⟩
instance pR:Rr Tryz.prog 261 2:=⟨by kernel_rfl⟩
instance Oy:Rr Tryz.prog 139 18:=⟨by kernel_rfl⟩
instance bG:Rr Tryz.prog 215 7:=⟨by kernel_rfl⟩
instance bD:Rr Tryz.prog 224 2:=⟨by kernel_rfl⟩
instance bF:Rr Tryz.prog 218 5:=⟨by kernel_rfl⟩
instance bE:Rr Tryz.prog 221 7:=⟨by kernel_rfl⟩
instance Ut:Rr Tryz.prog 129 2:=⟨by kernel_rfl⟩
instance Oz:Fc (Kh Tryz.prog 130 1 false=true):=⟨by kernel_rfl⟩
instance bI:Fc (Kh Tryz.prog 131 1 false=true):=⟨by kernel_rfl⟩
instance pU:Rr Tryz.prog 210 2:=⟨by kernel_rfl⟩
instance pS:Rr Tryz.prog 232 3:=⟨by kernel_rfl⟩
instance nA:Fc (Kh Tryz.prog 34 1 false=true):=⟨by kernel_rfl⟩
instance I6:Rr Tryz.prog 107 4:=⟨by kernel_rfl⟩
instance X8:Fc (Kh Tryz.prog 33 1 false=true):=⟨by kernel_rfl⟩
instance Su:Rr Tryz.prog 103 3:=⟨by kernel_rfl⟩
instance LQ:Fc (Kh Tryz.prog 89 1 false=true):=⟨by kernel_rfl⟩
instance OZ:Rr Tryz.prog 50 5:=⟨by kernel_rfl⟩
instance pZ:Rr Tryz.prog 148 2:=⟨by kernel_rfl⟩
instance:Fc (Kh Tryz.prog 45 1 false=true):=⟨by kernel_rfl⟩
instance pY:Rr Tryz.prog 153 2:=⟨by kernel_rfl⟩
instance:Fc (Kh Tryz.prog 46 1 false=true):=⟨by kernel_rfl⟩
instance pX:Rr Tryz.prog 158 4:=⟨by kernel_rfl⟩
instance:Fc (Kh Tryz.prog 47 1 false=true):=⟨by kernel_rfl⟩
instance pW:Rr Tryz.prog 163 4:=⟨by kernel_rfl⟩
instance:Fc (Kh Tryz.prog 48 1 false=true):=⟨by kernel_rfl⟩
instance qA:Rr Tryz.prog 112 26:=⟨by kernel_rfl⟩
instance bC:Fc (Kh Tryz.prog 71 1 false=true):=⟨by kernel_rfl⟩
instance:Fc (Kh Tryz.prog 190 1 false=true):=⟨by kernel_rfl⟩
instance pV:Fc (Kh Tryz.prog 192 1 false=true):=⟨by kernel_rfl⟩
instance bH:Rr Tryz.prog 194 4:=⟨by kernel_rfl⟩
instance mZ:Rr Tryz.prog 52 9:=⟨by kernel_rfl⟩
instance Rz:Fc (Kh Tryz.prog 76 1 false=true):=⟨by kernel_rfl⟩
instance:KM CG 0 AB (·.Q):=⟨Xq⟩
instance:KM CG 1 AB (·.Z):=⟨Tq⟩
instance:KM B1 2 AB (·.Au):=⟨Oe⟩
instance:KM B1 4 (A5.sl CG) (·.Bm):=⟨Ph⟩
instance:KM B1 5 (A5.sl AB) (·.An):=⟨Pg⟩
instance:KM B1 6 AB (·.Aa):=⟨Cj.f_Num⟩
instance:KM B1 7 AB (·.T):=⟨Cj.f_Den⟩
instance:KM B1 11 (A5.sl KE) (·.S):=⟨Cj.f_Rain⟩
instance:KM LD 0 (A5.sl CG) (·.Aw):=⟨OX⟩
instance:KM LD 1 (A5.sl CG) (·.Ax):=⟨OY⟩
instance:KM CB 1 AB (·.G):=⟨BC.f_Kind⟩
instance:KM CB 3 AB (·.E):=⟨BC.f_To⟩
instance:KM CB 4 (A5.sl CG) (·.As):=⟨Kg⟩
instance:KM CB 5 LD (·.Ae):=⟨IX⟩
instance:KM CB 7 AB (·.W):=⟨Gk⟩
instance:KM CB 8 AB (·.Ag):=⟨Kw⟩
instance:KM CB 9 AB (·.Bc):=⟨OV⟩
instance:KM CB 10 AB (·.Bd):=⟨Np⟩
instance:KM CB 11 AB (·.Aa):=⟨BC.f_Num⟩
instance:KM CB 12 AB (·.T):=⟨BC.f_Den⟩
instance:KM CB 13 AB (·.Az):=⟨QH⟩
instance:KM CB 14 AB (·.Ba):=⟨QI⟩
instance:KM CB 15 AB (·.Aq):=⟨KB⟩
instance:KM CB 16 AB (·.Al):=⟨KC⟩
instance:KM B3 0 A5.str (·.F):=⟨AF.f_Name⟩
instance:KM B3 1 (A5.sl A5.str) (·.J):=⟨IJ⟩
instance:KM B3 2 AB (·.K):=⟨NV⟩
instance:KM B3 3 (A5.sl B1) (·.A):=⟨Cp⟩
instance:KM B3 4 (A5.sl CB) (·.C):=⟨HY⟩
instance:KM B3 5 (A5.sl HN) (·.Af):=⟨KZ⟩
instance:KM B3 6 (A5.sl Et) (·.Ah):=⟨K2⟩
instance:KM B3 7 (A5.sl G5) (·.Ai):=⟨Lo⟩
instance:KM B3 8 (A5.sl DW) (·.Ak):=⟨KK⟩
instance:KM B3 9 (A5.sl AB) (·.Aj):=⟨AF.f_Room⟩
instance:KM B3 10 AB (·.L):=⟨AF.f_Err⟩
instance:KM AY 0 AB (·.At):=⟨Xr⟩
instance:KM AY 1 AB (·.E):=⟨AT.f_To⟩
instance:KM AY 2 (A5.sl AB) (·.V):=⟨AT.f_Part⟩
instance:KM BQ 0 AB (·.Ab):=⟨SF⟩
instance:KM BQ 3 A5.bool (·.Am):=⟨Vo⟩
instance:KM BU 0 AB (·.B):=⟨AI.f_Hour⟩
instance:KM BU 1 (A5.sl (A5.sl AB)) (·.H):=⟨M1⟩
instance:KM BU 2 (A5.sl AB) (·.N):=⟨Lh⟩
instance:KM BU 3 (A5.sl AY) (·.I):=⟨Li⟩
instance:KM BU 4 (A5.sl BQ) (·.P):=⟨Lj⟩
instance:KM BU 5 (A5.sl AB) (·.D):=⟨AI.f_In⟩
instance:KM BU 6 (A5.sl AB) (·.O):=⟨M2⟩
instance:KM DK 1 AB (·.Bj):=⟨QG⟩
instance:KM DK 2 AB (·.Be):=⟨FL.f_Litres⟩
instance:KM BD 0 (A5.sl AB) (·.S):=⟨AN.f_Rain⟩
instance:KM BD 1 (A5.sl Cv) (·.X):=⟨K1⟩
instance:KM BD 2 (A5.sl FY) (·.Y):=⟨MC⟩
instance:KM BD 3 (A5.sl DK) (·.U):=⟨Lk⟩
instance:KM BD 4 (A5.sl Dj) (·.Ad):=⟨Ll⟩
instance:KM EZ 0 (A5.sl AB) (·.a):=⟨DI.f_a⟩
instance:KM EZ 1 (A5.sl AB) (·.b):=⟨DI.f_b⟩
instance:KM Kt 0 (A5.sl Cv) (·.a):=⟨J6.f_a⟩
instance:KM Kt 1 (A5.sl Cv) (·.b):=⟨J6.f_b⟩
instance:KM Nm 0 (A5.sl FY) (·.a):=⟨NU.f_a⟩
instance:KM Nm 1 (A5.sl FY) (·.b):=⟨NU.f_b⟩
instance:KM MA 0 (A5.sl DK) (·.a):=⟨LH.f_a⟩
instance:KM MA 1 (A5.sl DK) (·.b):=⟨LH.f_b⟩
instance:KM MB 0 (A5.sl Dj) (·.a):=⟨LI.f_a⟩
instance:KM MB 1 (A5.sl Dj) (·.b):=⟨LI.f_b⟩
instance:KM A4 0 AB (·.to_):=⟨L5⟩
instance:KM A4 1 AB (·.delay):=⟨NT⟩
instance:KM A4 2 AB (·.way):=⟨N7⟩
instance:KM A4 3 (A5.fnr Tryz.prog (λS h vs (x:(List Int))=>∃w0:Value,vs=[w0]∧Sl S h AB w0 x) (λS h v (y:((List Int)×(List Int)))=>∃w0 w1:Value,v= .tuple #[w0,w1]∧Sl S h AB w0 y.1∧Sl S h AB w1 y.2)) (·.take):=⟨Ng⟩
instance:KM Cb 1 AB (·.Bb):=⟨Lg⟩
instance:KM Cb 3 BD (·.D):=⟨BZ.f_In⟩
instance:KM Cb 8 (A5.sl AB) (·.Bk):=⟨No⟩
end Go.Proofs.YtabonambpbofgaaGreat
