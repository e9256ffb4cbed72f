import Derived.Test.YtabonambpbofgaaGreatQCore14
import Derived.Test.YtabonambpbofgaaGreatQCore26
import Derived.Test.YtabonambpbofgaaGreatQSortD
import Derived.Test.YtabonambpbofgaaGreatQReps
import Derived.Test.YtabonambpbofgaaGreatRows
namespace Go.Proofs.YtabonambpbofgaaGreat
set_option linter.all false
open Go.RowKit
variable {c g j k s:Value}{f:Int->Nat}{E T TT b d:Nat}{h:AV}{L:List HP}{S:Nat->Prop}{X Y:Operand}{u:Array Edge}{m:SM}{n:FN}{C:World->Prop}{P:Program}{H:HP}
def Aev{a:Type}(f:a->HP):HP where
 holds:=λS F h=>∃i,(f i).holds S F h
 loc:=λ⟨i,k⟩ s e=>⟨i,(f i).loc k s e⟩
def Abc{α}(r:A9 α)(cs:List Value)(x:α):HP where
 holds:=λS F h=>r.rd S h cs x/\∀b,¬F b
 loc:=λ⟨a,c⟩ s e=>⟨r.mono a s λb d=>e b (.inl d),c⟩
section
variable{S:Nat->Prop}{L:List HP}{h:AV}
def St.exO{g:Type}{f:g->HP}(a:St S (Aev f::L) h):∃i,St S (f i::L) h:=by
 obtain⟨b,F,⟨i,k⟩,c,d⟩:=a;exact⟨i,b,F,k,c,d⟩
def mW{g:Type}{f:g->HP}(i:g)(a:St S (f i::L) h):St S (Aev f::L) h:=by
 obtain⟨b,F,k,c,d⟩:=a;exact⟨b,F,⟨i,k⟩,c,d⟩
def ZY{α}{r:A9 α}{cs:List Value}{x:α}(a:St S (Abc r cs x::L) h):r.rd S h cs x/\St S L h:=by
 obtain⟨F,k,_⟩:=a.get (Ahf ..);exact⟨k.1,a.drop .head⟩
def U6{α}{r:A9 α}{cs:List Value}{x:α}(a:St S L h)(k:r.rd S h cs x):St S (Abc r cs x::L) h:=
 (a.add (H':=Abc r cs x) (Ag5 _) (λ_ _=>rfl) ⟨λ_=>False,⟨k,λ_ x=>x⟩,λ_ x=>x.elim⟩).1
end
structure Dy where
 par:Int
 inp:AX
 st:AH
 kids:xq
variable {vs:List (Int×Dy)}{y:Dy}
structure F8 where
 bas:AF
 vs:List (Int×Dy)
 cr:Int
variable {o:Option F8}
instance:Inhabited F8:=⟨⟨default,[],0⟩⟩
def vO:Option Nat->Value
 |none=> .pointer none
 |some b=> .pointer (some ⟨b,0,none⟩)
def VB(T E b:Nat)(x:Dy):HP:=Aev λp:(List Value×List Value)×Value=>RC [Pu (AB x.par),Abc BJ p.1.1 x.inp,Abc BP p.1.2 x.st,Bx b T (.int .i64 x.par::(p.1.1++(p.1.2++[p.2]))),OS AC E p.2 x.kids]
def NB(T E:Nat)(f:Int->Nat)(vs:List (Int×Dy)):List HP:=vs.map λe=>VB T E (f e.1) e.2
def O7(f:Int->Nat)(vs:List (Int×Dy)):List (Int×Option Nat):=vs.map λe=>(e.1,some (f e.1))
def Pm(TT T E:Nat)(v:Value):Option F8->HP
 |none=>Pu (v= .pointer none)
 |some t=>Aev λp:(Nat×Nat)×(Int->Nat)×List Value=>RC (Pu (v= .pointer (some ⟨p.1.1,0,none⟩)/\AB t.cr/\(t.vs.map (·.1)).Nodup)::Abc Bz p.2.2 t.bas::Bx p.1.1 TT (p.2.2++[.map (some p.1.2),.int .i64 t.cr])::MP (Value.int .i64) vO p.1.2 (O7 p.2.1 t.vs)::NB T E p.2.1 t.vs)
section
variable{S:Nat->Prop}{L:List HP}{h:AV}{TT T E b bm:Nat}{x:Dy}{t:F8}{v:Value}
def St.vbO(a:St S (VB T E b x::L) h):∃c cs d,AB x.par/\BJ.rd S h c x.inp/\BP.rd S h cs x.st/\St S (Bx b T (.int .i64 x.par::(c++(cs++[d])))::OS AC E d x.kids::L) h:=by
 obtain⟨⟨⟨c,cs⟩,d⟩,a⟩:=a.exO;have a:=a.unpack;obtain⟨g,a⟩:=uD a;obtain⟨i,a⟩:=ZY a;obtain⟨j,a⟩:=ZY a;exact⟨c,cs,d,g,i,j,a⟩
def Aaf{a cs:List Value}(d:AB x.par)(g:BJ.rd S h a x.inp)(i:BP.rd S h cs x.st)(j:St S (Bx b T (.int .i64 x.par::(a++(cs++[c])))::OS AC E c x.kids::L) h):St S (VB T E b x::L) h:=
 mW ((a,cs),c) (bK (L1:=[_,_,_,_,_]) (W9 (U6 (U6 j i) g) d))
def St.trO(a:St S (Pm TT T E v (some t)::L) h):∃b bm f c,v= .pointer (some ⟨b,0,none⟩)/\AB t.cr/\(t.vs.map (·.1)).Nodup/\Bz.rd S h c t.bas/\St S (Bx b TT (c++[.map (some bm),.int .i64 t.cr])::MP (Value.int .i64) vO bm (O7 f t.vs)::(NB T E f t.vs++L)) h:=by
 obtain⟨⟨⟨b,bm⟩,f,c⟩,a⟩:=St.exO a;have a:=St.unpack a;obtain⟨⟨d,g,i⟩,a⟩:=uD a;obtain⟨j,a⟩:=ZY a;exact⟨b,bm,f,c,d,g,i,j,a⟩
def Aah{a:List Value}(c:v= .pointer (some ⟨b,0,none⟩))(d:AB t.cr)(g:(t.vs.map (·.1)).Nodup)(i:Bz.rd S h a t.bas)(j:St S (Bx b TT (a++[.map (some bm),.int .i64 t.cr])::MP (Value.int .i64) vO bm (O7 f t.vs)::(NB T E f t.vs++L)) h):St S (Pm TT T E v (some t)::L) h:=
 by
 have:=bK (L1:=_::_::_::_::NB T E f t.vs) (W9 (p:=v= .pointer (some ⟨b,0,none⟩)/\AB t.cr/\(t.vs.map (·.1)).Nodup) (U6 j i) ⟨c,d,g⟩);unfold Pm;exact mW ((b,bm),f,a) this
def mV(a:St S L h):St S (Pm TT T E (.pointer none) none::L) h:=W9 a rfl
end
def C3(vs:List (Int×Dy))(i:Int):Option Dy:=(vs.find? λe=>decide (e.1=i)).map (·.2)
def Nt{i:Int}{x:Dy}(h:C3 vs i=some x):∃p q,vs=p++(i,x)::q/\∀e∈p,e.1≠i:=by
 unfold C3 at h;obtain⟨e,b,rfl⟩:=Ah6.1 h;obtain⟨c,p,q,d,g⟩:=List.find?_eq_some_iff_append.1 b;have:e.1=i:=Aie c;subst this;exact⟨p,q,d,λa j=>by have:=g a j;simpa using this⟩
section
variable{S:Nat->Prop}{L K:List HP}{h:AV}{T E:Nat}{f:Int->Nat}{p q:List (Int×Dy)}{i:Int}{x y:Dy}
def Rw:NB T E f (p++q)=NB T E f p++NB T E f q:=by simp[NB]
def Xe:NB T E f ((i,x)::q)=VB T E (f i) x::NB T E f q:=rfl
def PK(a:St S (K++(NB T E f (p++(i,x)::q)++L)) h):St S (VB T E (f i) x::(K++(NB T E f p++(NB T E f q++L)))) h:=by
 rw[Rw,Xe,Ah0,Ag4,<-Ah0]at a;have:=a.unmid;rwa [Ah0]at this
def UB(a:St S (VB T E (f i) x::(K++(NB T E f p++(NB T E f q++L)))) h):St S (K++(NB T E f (p++(i,x)::q)++L)) h:=by
 rw[Rw,Xe,Ah0,Ag4,<-Ah0];rw[<-Ah0]at a;exact a.mid
end
def SJ{d:Type}{k:Int}:∀{m:List (Int×d)},KT (Value.int .i64) m k=(m.find? λe=>decide (e.1=k)).map (·.2)
 |[]=>rfl
 |e::m=>by
  have a:=SJ (k:=k) (m:=m);unfold KT at a ⊢;rw[Aje,Aje];by_cases h:e.1=k
  ·subst h;simp[Kp,WA]
  ·have c:Kp (Value.int .i64 k) (Value.int .i64 e.1)=false:=by
    cases b:Kp (Value.int .i64 k) (Value.int .i64 e.1)with
    |false=>rfl
    |true=>simp[Kp,WA]at b;exact absurd b.symm h
   rw[c,Agx h];exact a
def Zl{i:Int}:KT (Value.int .i64) (O7 f vs) i=(C3 vs i).map λ_=>some (f i):=by
 rw[SJ];unfold O7 C3;rw[List.find?_map];cases h:vs.find? λe=>decide (e.1=i)with
 |none=>simp[Function.comp_def,h]
 |some e=>
  have:e.1=i:=by simpa using List.find?_some h
  simp[Function.comp_def,h,this]
def Yj{c:Array Oper}{Q:Act->Prop}{a:List Oper}{ty:TypeId}{g:String}{v:Value}{t t2 i:TypeId}(w:St S L h)(x:Pm TT T E v o∈L)(j:B5 m X=some v)(l:B5 m Y=some (.pointer none))(p:P.underlying t=some (.pointer i))(y:((P.info? i).map (·.size)).isSome=true)(hd:Nat.blt d n.1=true)(k:QF P c C Q a n ((d,.bool o.isNone)::m)):
  QF P c C Q (⟨some d,.binOp .eql t X Y t2,ty,g,u,none⟩::a) n m:=by
 obtain⟨k0,q⟩:=Ajf.1 y;obtain⟨F,s,_⟩:=w.get x;cases o with
 |none=>
  obtain rfl:v= .pointer none:=s.1;exact UC j l p q hd k
 |some t=>
  obtain⟨⟨⟨b,bm⟩,f,A⟩,B,⟨⟨z,_⟩,_⟩,_⟩:=s;subst z;exact UC j l p q hd k
section
variable{P:Program}{ops:Array Oper}{C:World->Prop}{Q:Act->Prop}{n:FN}{m:SM}{rest:List Oper}
variable{d:Nat}{ty:TypeId}{pos:String}{af:Array Edge}{X Y:Operand}{t:TypeId}{S:Nat->Prop}{L:List HP}{h:AV}{b:Nat}
def bW{κ β:Type}{kv:κ->Value}{vv:β->Value}{l:List (κ×β)}{kt et:TypeId}(j:CK C h)(o:St S L h)(p:MP kv vv b l∈L)(q:B5 m X=some (.map (some b)))(s:P.underlying t=some (.map kt et))(hd:Nat.blt d n.1=true)(k:QF P ops C Q rest n ((d,.int .i64 (l.length:Int))::m)):
  QF P ops C Q (⟨some d,.call ⟨.builtin .len,#[X],#[t]⟩,ty,pos,af,none⟩::rest) n m:=λa i=>by
 refine GH i hd (λw u=>?_) k;obtain⟨F,⟨v,es,c,x,y,_⟩,g⟩:=o.get p;have z:w.heap[b]? =some (.map es c):=(j w u b (g b ((v b).2 rfl)).1).trans x;have A:es.size=l.length:=by
  have:=Agt List.length y;simpa using this
 simp[execOp,resolve,invoke,builtin,Builtin.len_,i.eval q,run_underlying s,MapKept.run_getObj_map z,goInt,A]
end
section
variable{P:Program}{ops:Array Oper}{Q:Exit->Act->World->Prop}{n:FN}{m:SM}{rest:List Oper}{B:World}
variable{ty:TypeId}{pos:String}{af:Array Edge}{X Y Z:Operand}{t:TypeId}{S:Nat->Prop}{L L2:List HP}{h:AV}{b:Nat}
variable{κ β:Type}{kv:κ->Value}{vv:β->Value}{l:List (κ×β)}{k0:κ}{x:β}{kt et:TypeId}
def Aa3(hs:St S L h)(rp:Nm L (MP kv vv b l) (MP kv vv b (Mj kv l k0 x)) L2)(hx:B5 m X=some (.map (some b)))(hy:B5 m Y=some (kv k0))(hz:B5 m Z=some (vv x))(hT:P.underlying t=some (.map kt et))(G:NU P kt kv)
  (k:∀h',St S L2 h'->CO S h S h'->LF P ops Q rest B h' n m):LF P ops Q (⟨none,.insert t X Y Z,ty,pos,af,none⟩::rest) B h n m:=by
 intro a w q u;refine wpList_plain rfl λK v=>?_;unfold Oper.wp;obtain⟨M,p,_⟩:=rp.pick;obtain⟨F,⟨g1,es,c,g2,H,g4⟩,hF,_⟩:=Sp.pick p hs.2;have y:w.heap[b]? =some (.map es c):=by rw[u.heap];exact g2
 have I:=G.find k0 es.toList w (SS H);have z:∀(o:Obj)(h0:w.heap=h),(∀c',c'≠b->(w.heap.setIfInBounds b o)[c']? =h[c']?)/\(w.heap.setIfInBounds b o)[b]? =some o/\(w.heap.setIfInBounds b o).size=h.size:=λo h0=>by
  have J:b<w.heap.size:=(Ahu.1 y).1;refine⟨λc' A=>by rw[Aj8 (Ne.symm A),h0],?_,by simp[h0]⟩;rw[Array.getElem?_setIfInBounds_self];simp[J]
 have C:∀(d:Array MapEntry)(c':Nat),d.toList.map (λe=>(e.key,e.val))=(Mj kv l k0 x).map (λe=>(kv e.1,vv e.2))->Og d.toList c'->wpList P ops Q rest a { w with heap:=w.heap.setIfInBounds b (.map d c')}:=λd c' he U=>by
  obtain⟨s1,s2,s3⟩:=z (.map d c') u.heap;have V:Wd B (w.heap.setIfInBounds b (.map d c')) { w with heap:=w.heap.setIfInBounds b (.map d c')}:=⟨rfl,u.os,u.tape,u.out⟩
  obtain⟨u1,u2⟩:=hs.upd (h':=w.heap.setIfInBounds b (.map d c')) rp Ω λF k1 k2=>⟨F,⟨k1.1,d,c',s2,he,U⟩,λc A=> .inl A,λc _ A=>s1 c λe=>A ((k1.1 c).2 e)⟩
  exact k _ u1 u2 a _ q V
 cases i:V5 (Kp (kv k0)) es.toList 0 with
 |none=>
  rw[i]at I;have g:(execOp a.eval ⟨none,.insert t X Y Z,ty,pos,af,none⟩).run P w= .ok .skip { w with heap:=w.heap.setIfInBounds b (.map (es.push { key:=kv k0,val:=vv x,born:=c}) (c+1))}:=by
   simp[execOp,q.eval hx,q.eval hy,q.eval hz,Instr.mapUpdate,run_underlying hT,MapKept.run_getObj_map y,G.chk,I,MapKept.run_setObj_map _ y]
  rw[g];refine v _ _ (C _ _ ?_ (by rw[Array.toList_push];exact g4.push _ rfl));rw[Us k0 0 x H i];simp[H]
 |some r=>
  obtain⟨j,r2⟩:=r;rw[i]at I;obtain⟨_,q2,⟨W,q3,q4⟩,q5⟩:=Ur k0 (vv x) 0 j r2 x H i;have D:((es[j]?).map (·.key)).getD (kv k0)=kv W:=by
   have:(es[j]?).map (·.key)=some (kv W):=by simpa using q3
   simp[this]
  have s:(Instr.keyThatStays (kv W) (kv k0)).run P w= .ok (kv k0) w:=by simp[Instr.keyThatStays,G.same _ _ q4]
  have g:(execOp a.eval ⟨none,.insert t X Y Z,ty,pos,af,none⟩).run P w= .ok .skip { w with heap:=w.heap.setIfInBounds b (.map (es.modify j λe=>{ e with key:=kv k0,val:=vv x}) c)}:=by
   simp[execOp,q.eval hx,q.eval hy,q.eval hz,Instr.mapUpdate,run_underlying hT,MapKept.run_getObj_map y,G.chk,I,D,s,MapKept.run_setObj_map _ y]
  rw[g];refine v _ _ (C _ _ ?_ (by rw[Array.toList_modify];exact g4.of (TX _ _ _ λ_=>rfl)));simpa using q5
end
section
variable{P:Program}{ex:List (Nat×AP)}{RR N:AP}{cs:List Code}{B:World}{h:AV}{n:FN}{m:SM}{C:World->Prop}{l:List Oper}{fuel:Nat}{listed:Array Bool}{d:Nat}{ty:TypeId}{pos:String}{af:Array Edge}{a:Act}{w:World}
def iW{T:TypeId}{b:Array (Nat×Operand)}{pl z pv}{cs:List Value}(o:Fr n a m)(q:To P T=some (pl,z))(c:b.toList.mapM (cZ m)=some pv)(k:Nh pl z pv=some cs):(execOp a.eval ⟨some d,.build T b,ty,pos,af,none⟩).run P w= .ok (.value (.agg cs.toArray)) w:=by
 have i:(b.map λ(p:Nat×Operand)=>(p.1,a.eval p.2)).toList=pv:=by
  obtain⟨l⟩:=b;simp only at c;simp only[List.map_toArray];clear k
  induction l generalizing pv with
  |nil=>simp at c;subst c;rfl
  |cons x l s=>
   simp only[Ai9,Ajp,Aiq,cZ,Ah6]at c;obtain⟨y,⟨v,t,rfl⟩,u,j,g⟩:=c;simp only[Ajq,Ahv]at g;subst g;simp only[Ag9,o.eval t,s j]
 have:=run_build (P:=P) w T (b.map λ(p:Nat×Operand)=>(p.1,a.eval p.2)) cs.toArray (by rw[i];exact Yb q k);simp only[execOp,Sem.run_bind,this];rfl
def Aa6(i:Nat){T:TypeId}{b:Array (Nat×Operand)}{pl z pv}{vs:List Value}(g:l[i]? =some ⟨some d,.build T b,ty,pos,af,none⟩)(c:V2 l listed i=true)(j:∀w,Wd B h w->C w)(o:To P T=some (pl,z))(p:b.toList.mapM (cZ m)=some pv)(q:Nh pl z pv=some vs)(hd:Nat.blt d n.1=true)(k:HF P l (QW P ex RR cs N) C fuel (listed.setIfInBounds i true) B h n ((d,.agg vs.toArray)::m)):HF P l (QW P ex RR cs N) C (fuel+1) listed B h n m:=
 Qa i g c j hd (λa w s _=>iW s o p q) k
end
def kO:AX:=⟨[],[],[],[],[]⟩
def xH:Rd S h BJ (.agg #[.slice none 0 0,.slice none 0 0,.slice none 0 0,.slice none 0 0,.slice none 0 0]) kO:=
 BJ.mk (x:=kO) (.inl ⟨rfl,rfl⟩) (.inl ⟨rfl,rfl⟩) (.inl ⟨rfl,rfl⟩) (.inl ⟨rfl,rfl⟩) (.inl ⟨rfl,rfl⟩)
def St.trX{v:Value}{t:F8}(n:St S (Pm TT T E v (some t)::L) h):∃b m f v1 a c d g i j l,v= .pointer (some ⟨b,0,none⟩)/\AB t.cr/\(t.vs.map (·.1)).Nodup/\Rd S h Bz (.agg #[.string t.bas.G,v1,.int .i64 t.bas.L,a,c,d,g,i,j,l,.int .i64 t.bas.M]) t.bas/\St S (Bx b TT [.string t.bas.G,v1,.int .i64 t.bas.L,a,c,d,g,i,j,l,.int .i64 t.bas.M,.map (some m),.int .i64 t.cr]::MP (Value.int .i64) vO m (O7 f t.vs)::(NB T E f t.vs++L)) h:=by
 obtain⟨b,m,f,u,o,p,q,s,n⟩:=n.trO;obtain⟨v1,a,c,d,g,i,j,l,rfl,k⟩:=s;exact⟨b,m,f,v1,a,c,d,g,i,j,l,o,p,q,⟨_,rfl,v1,a,c,d,g,i,j,l,rfl,k⟩,n⟩
def QT{m:Nat}{t:F8}{v1 a d i l:Value}(n:AB t.cr)(o:(t.vs.map (·.1)).Nodup)(p:Rd S h Bz (.agg #[.string t.bas.G,v1,.int .i64 t.bas.L,a,c,d,g,i,j,l,.int .i64 t.bas.M]) t.bas)(q:St S (Bx b TT [.string t.bas.G,v1,.int .i64 t.bas.L,a,c,d,g,i,j,l,.int .i64 t.bas.M,.map (some m),.int .i64 t.cr]::MP (Value.int .i64) vO m (O7 f t.vs)::(NB T E f t.vs++L)) h):St S (Pm TT T E (.pointer (some ⟨b,0,none⟩)) (some t)::L) h:=by
 obtain⟨cs,e,k⟩:=p;obtain rfl:cs=[.string t.bas.G,v1,.int .i64 t.bas.L,a,c,d,g,i,j,l,.int .i64 t.bas.M]:=by
  have:Value.agg #[.string t.bas.G,v1,.int .i64 t.bas.L,a,c,d,g,i,j,l,.int .i64 t.bas.M]= .agg cs.toArray:=e;have:=Agt Array.toList (Value.agg.inj this);simpa using this.symm
 exact Aah rfl n o k q
def St.vbX{x:Dy}(t:St S (VB T E b x::L) h):∃a c d g i l m n o p q s,AB x.par/\Rd S h BJ (.agg #[a,c,d,g,i]) x.inp/\AB x.st.B/\Rd S h BP (.agg #[.int .i64 x.st.B,l,m,n,o,p,q]) x.st/\St S (Bx b T [.int .i64 x.par,a,c,d,g,i,.int .i64 x.st.B,l,m,n,o,p,q,s]::OS AC E s x.kids::L) h:=by
 obtain⟨y,cs,s,u,v,w,t⟩:=t.vbO;obtain⟨a,c,d,g,i,rfl,k⟩:=v;obtain⟨l,m,n,o,p,q,rfl,j⟩:=w;exact⟨a,c,d,g,i,l,m,n,o,p,q,s,u,⟨_,rfl,a,c,d,g,i,rfl,k⟩,j.1,⟨_,rfl,l,m,n,o,p,q,rfl,j⟩,t⟩
def TI{x:Dy}{a d i l m n o p q:Value}(u:AB x.par)(v:Rd S h BJ (.agg #[a,c,d,g,i]) x.inp)(w:Rd S h BP (.agg #[.int .i64 x.st.B,l,m,n,o,p,q]) x.st)(y:St S (Bx b T [.int .i64 x.par,a,c,d,g,i,.int .i64 x.st.B,l,m,n,o,p,q,s]::OS AC E s x.kids::L) h):St S (VB T E b x::L) h:=by
 obtain⟨t,e,k⟩:=v;obtain⟨cs,z,j⟩:=w;obtain rfl:t=[a,c,d,g,i]:=by
  have:Value.agg #[a,c,d,g,i]= .agg t.toArray:=e;have:=Agt Array.toList (Value.agg.inj this);simpa using this.symm
 obtain rfl:cs=[.int .i64 x.st.B,l,m,n,o,p,q]:=by
  have:Value.agg #[.int .i64 x.st.B,l,m,n,o,p,q]= .agg cs.toArray:=z;have:=Agt Array.toList (Value.agg.inj this);simpa using this.symm
 exact Aaf u k j y
def O6{i:Int}:(if true=true then Value.tuple #[vO ((KT (Value.int .i64) (O7 f vs) i).getD none),.bool (KT (Value.int .i64) (O7 f vs) i).isSome] else vO ((KT (Value.int .i64) (O7 f vs) i).getD none))= .tuple #[vO ((C3 vs i).map λ_=>f i),.bool (C3 vs i).isSome]:=by
 rw[Zl];cases C3 vs i<;>rfl
def fI{i:Int}:(if false=true then Value.tuple #[vO ((KT (Value.int .i64) (O7 f vs) i).getD none),.bool (KT (Value.int .i64) (O7 f vs) i).isSome] else vO ((KT (Value.int .i64) (O7 f vs) i).getD none))=vO ((C3 vs i).map λ_=>f i):=by
 rw[Zl];cases C3 vs i<;>rfl
def Zk:(O7 f vs).length=vs.length:=by simp[O7]
def st0:AH:=⟨0,[],[],[],[],[],[]⟩
def wC:Rd S h BP (.agg #[.int .i64 0,.slice none 0 0,.slice none 0 0,.slice none 0 0,.slice none 0 0,.slice none 0 0,.slice none 0 0]) st0:=
 BP.mk (x:=st0) ⟨by decide,by decide⟩ (.inl ⟨rfl,rfl⟩) (.inl ⟨rfl,rfl⟩) (.inl ⟨rfl,rfl⟩) (.inl ⟨rfl,rfl⟩) (.inl ⟨rfl,rfl⟩) (.inl ⟨rfl,rfl⟩)
def Aag{a:Nat}{t:F8}{v1 d i l:Value}(m:AB t.cr)(n:(t.vs.map (·.1)).Nodup)(o:Rd S h Bz (.agg #[.string t.bas.G,v1,.int .i64 t.bas.L,c,d,g,i,j,k,l,.int .i64 t.bas.M]) t.bas)(p:St S (H::Bx b TT [.string t.bas.G,v1,.int .i64 t.bas.L,c,d,g,i,j,k,l,.int .i64 t.bas.M,.map (some a),.int .i64 t.cr]::MP (Value.int .i64) vO a (O7 f t.vs)::(NB T E f t.vs++L)) h):St S (H::Pm TT T E (.pointer (some ⟨b,0,none⟩)) (some t)::L) h:=by
 have q:=St.mid (M:=Bx b TT [.string t.bas.G,v1,.int .i64 t.bas.L,c,d,g,i,j,k,l,.int .i64 t.bas.M,.map (some a),.int .i64 t.cr]::MP (Value.int .i64) vO a (O7 f t.vs)::NB T E f t.vs) p;exact(QT m n o q).pick (.tail .head)
def Tb(vs:List (Int×Dy))(ks:xq):List (Int×Dy):=ks.filterMap λi=>(C3 vs i).map λx=>(i,{ x with kids:=x.kids.filter λk=>ks.contains k})
def Mo(vs:List (Int×Dy))(p:Int)(x:Dy):List (Int×Dy):=vs.map λe=>if e.1=p then(p,x) else e
def cM{P Q:List (Int×Dy)}{p:Int}{x:Dy}(c:((P++(p,x)::Q).map (·.1)).Nodup):Mo (P++(p,x)::Q) p y=P++(p,y)::Q:=by
 rw[Ah5,Ag9,Ajw]at c;obtain⟨_,a,d⟩:=c;have a:=Ajh.1 a;have g:P.map (λe=>if e.1=p then(p,y) else e)=P:=by
  conv=>rhs;rw[<-List.map_id P]
  refine Ai3 λe b=>?_;rw[Agn λh=>d e.1 (Ahr.2 ⟨e,b,rfl⟩) p (by simp) h];rfl
 have i:Q.map (λe=>if e.1=p then(p,y) else e)=Q:=by
  conv=>rhs;rw[<-List.map_id Q]
  refine Ai3 λe b=>?_;rw[Agn λh=>a.1 (Ahr.2 ⟨e,b,h⟩)];rfl
 unfold Mo;rw[Ah5,Ag9,Agp rfl,g,i]
def cN{P Q:List (Int×Dy)}{p k:Int}{x:Dy}(a:k≠p)(h:C3 (P++(p,x)::Q) k=some y):C3 (P++Q) k=some y:=by
 unfold C3 at h ⊢;rw[Aj0,Aje,Agx (λe=>a e.symm)]at h;rw[Aj0];exact h
def nY{c:Int}{x:Dy}(a:C3 vs c=none):Mj (Value.int .i64) (O7 f vs) c (some b)=O7 (λi=>if i=c then b else f i) (vs++[(c,x)]):=by
 induction vs with
 |nil=>simp[O7,Mj]
 |cons e vs d=>
  unfold C3 at a d;rw[Aje]at a;by_cases h:e.1=c
  ·rw[Ag8 h]at a;cases a
  ·rw[Agx h]at a;have d:=d a;have j:Kp (Value.int .i64 c) (Value.int .i64 e.1)=false:=by
    cases g:Kp (Value.int .i64 c) (Value.int .i64 e.1)with
    |false=>rfl
    |true=>simp[Kp,WA]at g;exact absurd g.symm h
   simp only[O7,Ag9,Mj,j,Ag4,Agn h,Ail,Aim]at d ⊢;rw[d]
def Zm{c:Int}(a:∀e∈vs,e.1≠c):NB T E (λi=>if i=c then b else f i) vs=NB T E f vs:=by
 unfold NB;exact Ai3 λe d=>by show VB T E (if e.1=c then b else f e.1) e.2=_;rw[Agn (a e d)]
def nX{P Q:List (Int×Dy)}{p:Int}{x:Dy}:O7 f (P++(p,x)::Q)=O7 f (P++(p,y)::Q):=by simp[O7]
def cO{c:Int}(h:C3 vs c=none):∀e∈vs,e.1≠c:=λe a b=>by
 unfold C3 at h;have:=List.find?_eq_none.1 (Option.map_eq_none_iff.1 h) e a;simp[b]at this
open Go.Proofs.Tryz
def eT:E8 prog 31=some [.string ByteArray.empty,.slice none 0 0,.int .i64 0,.slice none 0 0,.slice none 0 0,.slice none 0 0,.slice none 0 0,.slice none 0 0,.slice none 0 0,.slice none 0 0,.int .i64 0]:=Γ
def lJ:OI prog 22=some (9,1,16,[.string ByteArray.empty]):=Γ
def vY:To prog 129=some ([(0,1),(1,1)],[.int .i64 0,.int .i64 0]):=Γ
def ZL:OI prog 130=some (129,2,16,[.int .i64 0,.int .i64 0]):=Γ
def JY:OI prog 29=some (3,1,8,[.int .i64 0]):=Γ
def vX:To prog 133=some ([(0,1),(1,1),(2,1),(3,1),(4,1),(5,1),(6,1),(7,1),(8,1),(9,1),(10,1),(11,1)],[.string ByteArray.empty,.int .i64 0,.int .i64 0,.int .i64 0,.slice none 0 0,.slice none 0 0,.int .i64 0,.int .i64 0,.int .i64 0,.int .i64 0,.int .i64 0,.slice none 0 0]):=Γ
def lI:OI prog 23=some (133,12,152,[.string ByteArray.empty,.int .i64 0,.int .i64 0,.int .i64 0,.slice none 0 0,.slice none 0 0,.int .i64 0,.int .i64 0,.int .i64 0,.int .i64 0,.int .i64 0,.slice none 0 0]):=Γ
def Abu:To prog 31=some ([(0,1),(1,1),(2,1),(3,1),(4,1),(5,1),(6,1),(7,1),(8,1),(9,1),(10,1)],[.string ByteArray.empty,.slice none 0 0,.int .i64 0,.slice none 0 0,.slice none 0 0,.slice none 0 0,.slice none 0 0,.slice none 0 0,.slice none 0 0,.slice none 0 0,.int .i64 0]):=Γ
def Adv:BI prog 34=true:=Γ
def Pn:E8 prog 36=some [.int .i64 0,.slice none 0 0,.slice none 0 0,.slice none 0 0,.slice none 0 0,.slice none 0 0,.slice none 0 0]:=Γ
def mo:prog.follows .mixedOrders=true:=Γ
def sS:To prog 36=some ([(0,1),(1,1),(2,1),(3,1),(4,1),(5,1),(6,1)],[.int .i64 0,.slice none 0 0,.slice none 0 0,.slice none 0 0,.slice none 0 0,.slice none 0 0,.slice none 0 0]):=Γ
def Uv:OI prog 32=some (29,1,24,[.slice none 0 0]):=Γ
def lH:OI prog 34=some (107,4,24,[.int .i64 0,.int .i64 0,.bool false,.bool false]):=Γ
def fS:∃e,prog.underlying 29=some (.slice e):=⟨3,Γ⟩
def RO:E8 prog 133=some [.string ByteArray.empty,.int .i64 0,.int .i64 0,.int .i64 0,.slice none 0 0,.slice none 0 0,.int .i64 0,.int .i64 0,.int .i64 0,.int .i64 0,.int .i64 0,.slice none 0 0]:=Γ
def N9:BI prog 73=true:=Γ
def VO:prog.underlying 9=some .string:=Γ
def IJ:BI prog 143=true:=Γ
def Kq:BI prog 144=true:=Γ
def uM:E8 prog 225=some [.map none]:=Γ
def Aex:E8 prog 4=some [.bool false]:=Γ
def vR:To prog 261=some ([(0,1),(1,1)],[.string ByteArray.empty,.string ByteArray.empty]):=Γ
def uK:E8 prog 261=some [.string ByteArray.empty,.string ByteArray.empty]:=Γ
def yO:BI prog 200=true:=Γ
def gC:prog.underlying 225=some (.map 261 4):=Γ
def xL:eI prog 261=some [3,3]:=Γ
def aO:NU prog 261 (λk:AI=>Value.agg (AI.v k).toArray):=NU.agg (f:=AI.v) underlying261 xL (λk=>rfl) (λa b=>rfl) (λk e w=>Γ) (λa b c=>by
 simp only[AI.v,Rf,WA,Agu,TF,Ahb,beq_iff_eq]at c;simp[AI.v,c]) (λa=>by simp[Instr.sameBits,AI.v,TF.2])
def Aew:∀w,(zeroValue 4).run prog w= .ok (.bool false) w:=λw=>Γ
def zC:BI prog 146=true:=Γ
def Rm:BI prog 145=true:=Γ
def Po:E8 prog 139=some [.string ByteArray.empty,.int .i64 0,.int .i64 0,.int .i64 0,.slice none 0 0,.slice none 0 0,.slice none 0 0,.int .i64 0,.int .i64 0,.int .i64 0,.int .i64 0,.int .i64 0,.int .i64 0,.int .i64 0,.int .i64 0,.int .i64 0,.int .i64 0,.int .i64 0]:=Γ
def eZ:E8 prog 215=some [.string ByteArray.empty,.int .i64 0,.int .i64 0,.int .i64 0,.int .i64 0,.int .i64 0,.int .i64 0]:=Γ
def eV:E8 prog 224=some [.string ByteArray.empty,.int .i64 0]:=Γ
def eY:E8 prog 218=some [.string ByteArray.empty,.int .i64 0,.int .i64 0,.int .i64 0,.int .i64 0]:=Γ
def eW:E8 prog 221=some [.string ByteArray.empty,.int .i64 0,.int .i64 0,.int .i64 0,.int .i64 0,.int .i64 0,.int .i64 0]:=Γ
def WP:E8 prog 129=some [.int .i64 0,.int .i64 0]:=Γ
def Rk:BI prog 150=true:=Γ
def Rl:BI prog 147=true:=Γ
def ZR:BI prog 148=true:=Γ
def mK:BI prog 149=true:=Γ
def uN:E8 prog 210=some [.int .i64 0,.int .i64 0]:=Γ
def Ps:prog.underlying 3=some (.int .i64):=Γ
def Yv:prog.underlying 244=some (.int .u64):=Γ
def yE:BI prog 242=true:=Γ
def yF:BI prog 241=true:=Γ
def MK:prog.underlying 125=some (.int .u64):=Γ
def mB:BI prog 202=true:=Γ
def Abp:prog.underlying 5=some (.int .u8):=Γ
def yD:BI prog 243=true:=Γ
def yJ:BI prog 228=true:=Γ
def mA:BI prog 203=true:=Γ
def U0:BI prog 195=true:=Γ
def ZQ:BI prog 227=true:=Γ
def mC:BI prog 201=true:=Γ
def zB:BI prog 151=true:=Γ
def zA:BI prog 152=true:=Γ
def mJ:BI prog 153=true:=Γ
def TC:BI prog 154=true:=Γ
def xU:OI prog 264=some (130,1,24,[.slice none 0 0]):=Γ
def yZ:BI prog 155=true:=Γ
def Aac:Aep prog 232=some ([(0,1),(1,1),(2,1)],[.int .i64 0,.int .i64 0,.int .i64 0]):=Γ
def uL:E8 prog 232=some [.int .i64 0,.int .i64 0,.int .i64 0]:=Γ
def Aaa:Afn prog 232 3 1=true:=Γ
def Adc:BI prog 74=true:=Γ
def Adb:BI prog 75=true:=Γ
def Ada:BI prog 76=true:=Γ
def Ac9:BI prog 77=true:=Γ
def Ac8:BI prog 78=true:=Γ
def Ac7:BI prog 79=true:=Γ
def Ac6:BI prog 80=true:=Γ
def Ac5:BI prog 81=true:=Γ
def Ac4:BI prog 82=true:=Γ
def UE:E8 prog 107=some [.int .i64 0,.int .i64 0,.bool false,.bool false]:=Γ
def lZ:BI prog 204=true:=Γ
def Ux:BI prog 63=true:=Γ
def mI:BI prog 156=true:=Γ
def OR:BI prog 31=true:=Γ
def RP:E8 prog 103=some [.int .i64 0,.int .i64 0,.slice none 0 0]:=Γ
def QD:BI prog 113=true:=Γ
def Ac3:BI prog 83=true:=Γ
def tR:BI prog 84=true:=Γ
def fR:∃e,prog.underlying 32=some (.slice e):=⟨29,Γ⟩
def zM:BI prog 132=true:=Γ
def fQ:∃e,prog.underlying 33=some (.slice e):=⟨103,Γ⟩
def Te:OI prog 33=some (103,3,40,[.int .i64 0,.int .i64 0,.slice none 0 0]):=Γ
def zL:BI prog 133=true:=Γ
def fP:∃e,prog.underlying 34=some (.slice e):=⟨107,Γ⟩
def mM:BI prog 112=true:=Γ
def fZ:∃e,prog.underlying 22=some (.slice e):=⟨9,Γ⟩
def zK:BI prog 134=true:=Γ
def fY:∃e,prog.underlying 23=some (.slice e):=⟨133,Γ⟩
def zJ:BI prog 135=true:=Γ
def Zq:∃e,prog.underlying 130=some (.slice e):=⟨129,Γ⟩
def Zp:∃e,prog.underlying 131=some (.slice e):=⟨210,Γ⟩
def lK:OI prog 131=some (210,2,16,[.int .i64 0,.int .i64 0]):=Γ
def W1:BI prog 136=true:=Γ
def zI:BI prog 137=true:=Γ
def fX:∃e,prog.underlying 24=some (.slice e):=⟨139,Γ⟩
def tP:OI prog 24=some (139,18,200,[.string ByteArray.empty,.int .i64 0,.int .i64 0,.int .i64 0,.slice none 0 0,.slice none 0 0,.slice none 0 0,.int .i64 0,.int .i64 0,.int .i64 0,.int .i64 0,.int .i64 0,.int .i64 0,.int .i64 0,.int .i64 0,.int .i64 0,.int .i64 0,.int .i64 0]):=Γ
def zH:BI prog 138=true:=Γ
def fW:∃e,prog.underlying 25=some (.slice e):=⟨215,Γ⟩
def tO:OI prog 25=some (215,7,64,[.string ByteArray.empty,.int .i64 0,.int .i64 0,.int .i64 0,.int .i64 0,.int .i64 0,.int .i64 0]):=Γ
def zG:BI prog 139=true:=Γ
def fV:∃e,prog.underlying 26=some (.slice e):=⟨218,Γ⟩
def tN:OI prog 26=some (218,5,48,[.string ByteArray.empty,.int .i64 0,.int .i64 0,.int .i64 0,.int .i64 0]):=Γ
def zF:BI prog 140=true:=Γ
def fU:∃e,prog.underlying 27=some (.slice e):=⟨221,Γ⟩
def tM:OI prog 27=some (221,7,64,[.string ByteArray.empty,.int .i64 0,.int .i64 0,.int .i64 0,.int .i64 0,.int .i64 0,.int .i64 0]):=Γ
def zE:BI prog 141=true:=Γ
def fT:∃e,prog.underlying 28=some (.slice e):=⟨224,Γ⟩
def tL:OI prog 28=some (224,2,24,[.string ByteArray.empty,.int .i64 0]):=Γ
def zD:BI prog 142=true:=Γ
def sR:To prog 93=some ([(0,1),(1,5),(6,7),(13,1)],[.int .i64 0,.slice none 0 0,.slice none 0 0,.slice none 0 0,.slice none 0 0,.slice none 0 0,.int .i64 0,.slice none 0 0,.slice none 0 0,.slice none 0 0,.slice none 0 0,.slice none 0 0,.slice none 0 0,.slice none 0 0]):=Γ
def Abt:To prog 91=some ([(0,11),(11,1),(12,1)],[.string ByteArray.empty,.slice none 0 0,.int .i64 0,.slice none 0 0,.slice none 0 0,.slice none 0 0,.slice none 0 0,.slice none 0 0,.slice none 0 0,.slice none 0 0,.int .i64 0,.map none,.int .i64 0]):=Γ
def tW:BI prog 37=true:=Γ
def tV:BI prog 38=true:=Γ
def Ade:BI prog 71=true:=Γ
def Add:BI prog 72=true:=Γ
def Ads:BI prog 40=true:=Γ
def Adt:BI prog 39=true:=Γ
def tZ:BI prog 28=true:=Γ
def Adr:BI prog 41=true:=Γ
def ND:prog.underlying 89=some (.map 3 87):=Γ
def OQ:NU prog 3 (Value.int .i64):=NU.int Γ (λs e w=>Γ)
def OU:∀w,(zeroValue 87).run prog w= .ok (vO none) w:=λw=>Γ
def Zi:E8 prog 50=some [.slice none 0 0,.slice none 0 0,.slice none 0 0,.slice none 0 0,.slice none 0 0]:=Γ
def tU:BI prog 55=true:=Γ
def Ado:BI prog 54=true:=Γ
def mN:BI prog 111=true:=Γ
def sG:prog.underlying 87=some (.pointer 93):=Γ
def kL:((prog.info? 93).map (·.size)).isSome=true:=Γ
def uZ:prog.underlying 29=some (.slice 3):=Γ
def Abf:∀w,(zeroValue 3).run prog w= .ok (.int .i64 0) w:=λw=>Γ
def Abg:E8 prog 89=some [.map none]:=Γ
def Adu:BI prog 36=true:=Γ
def tX:BI prog 35=true:=Γ
def sH:prog.underlying 40=some (.pointer 91):=Γ
def kM:((prog.info? 91).map (·.size)).isSome=true:=Γ
def Vi:To prog 50=some ([(0,1),(1,1),(2,1),(3,1),(4,1)],[.slice none 0 0,.slice none 0 0,.slice none 0 0,.slice none 0 0,.slice none 0 0]):=Γ
def Adp:BI prog 49=true:=Γ
def xP:eI prog 148=some [1,1]:=Γ
def yY:BI prog 157=true:=Γ
def xO:eI prog 153=some [1,1]:=Γ
def yX:BI prog 158=true:=Γ
def xN:eI prog 158=some [1,1,1,1]:=Γ
def yW:BI prog 159=true:=Γ
def xM:eI prog 163=some [1,1,1,1]:=Γ
def yV:BI prog 160=true:=Γ
def vW:To prog 145=some ([(0,1),(1,1)],[.slice none 0 0,.slice none 0 0]):=Γ
def Ac2:BI prog 85=true:=Γ
def vV:To prog 150=some ([(0,1),(1,1)],[.slice none 0 0,.slice none 0 0]):=Γ
def Ac1:BI prog 86=true:=Γ
def vU:To prog 155=some ([(0,1),(1,1)],[.slice none 0 0,.slice none 0 0]):=Γ
def Ac0:BI prog 87=true:=Γ
def vT:To prog 160=some ([(0,1),(1,1)],[.slice none 0 0,.slice none 0 0]):=Γ
def Acz:BI prog 88=true:=Γ
def vS:To prog 165=some ([(0,1),(1,1)],[.slice none 0 0,.slice none 0 0]):=Γ
def Acy:BI prog 89=true:=Γ
def fO:∃e,prog.underlying 45=some (.slice e):=⟨148,Γ⟩
def tK:OI prog 45=some (148,2,16,[.int .i64 0,.int .i64 0]):=Γ
def fN:∃e,prog.underlying 46=some (.slice e):=⟨153,Γ⟩
def tJ:OI prog 46=some (153,2,16,[.int .i64 0,.int .i64 0]):=Γ
def fM:∃e,prog.underlying 47=some (.slice e):=⟨158,Γ⟩
def tI:OI prog 47=some (158,4,32,[.int .i64 0,.int .i64 0,.int .i64 0,.int .i64 0]):=Γ
def fL:∃e,prog.underlying 48=some (.slice e):=⟨163,Γ⟩
def tH:OI prog 48=some (163,4,32,[.int .i64 0,.int .i64 0,.int .i64 0,.int .i64 0]):=Γ
def Acx:BI prog 90=true:=Γ
def Acw:BI prog 91=true:=Γ
def Acv:BI prog 92=true:=Γ
def Acu:BI prog 93=true:=Γ
def Adn:BI prog 57=true:=Γ
def vZ:To prog 112=some ([(0,11),(11,5),(16,7),(23,1),(24,1),(25,1)],[.string ByteArray.empty,.slice none 0 0,.int .i64 0,.slice none 0 0,.slice none 0 0,.slice none 0 0,.slice none 0 0,.slice none 0 0,.slice none 0 0,.slice none 0 0,.int .i64 0,.slice none 0 0,.slice none 0 0,.slice none 0 0,.slice none 0 0,.slice none 0 0,.int .i64 0,.slice none 0 0,.slice none 0 0,.slice none 0 0,.slice none 0 0,.slice none 0 0,.slice none 0 0,.slice none 0 0,.slice none 0 0,.slice none 0 0]):=Γ
def uT:E8 prog 112=some [.string ByteArray.empty,.slice none 0 0,.int .i64 0,.slice none 0 0,.slice none 0 0,.slice none 0 0,.slice none 0 0,.slice none 0 0,.slice none 0 0,.slice none 0 0,.int .i64 0,.slice none 0 0,.slice none 0 0,.slice none 0 0,.slice none 0 0,.slice none 0 0,.int .i64 0,.slice none 0 0,.slice none 0 0,.slice none 0 0,.slice none 0 0,.slice none 0 0,.slice none 0 0,.slice none 0 0,.slice none 0 0,.slice none 0 0]:=Γ
def uS:E8 prog 148=some [.int .i64 0,.int .i64 0]:=Γ
def zY:BI prog 114=true:=Γ
def bC:BI prog 14=true:=Γ
def uR:E8 prog 153=some [.int .i64 0,.int .i64 0]:=Γ
def zX:BI prog 115=true:=Γ
def U1:BI prog 187=true:=Γ
def zW:BI prog 116=true:=Γ
def Adm:BI prog 58=true:=Γ
def mF:BI prog 188=true:=Γ
def uP:E8 prog 163=some [.int .i64 0,.int .i64 0,.int .i64 0,.int .i64 0]:=Γ
def zV:BI prog 117=true:=Γ
def Adl:BI prog 59=true:=Γ
def iF:To prog 116=some ([(0,1),(1,1),(2,1),(3,1),(4,1)],[.int .i64 0,.int .i64 0,.int .i64 0,.int .i64 0,.slice none 0 0]):=Γ
def YS:OI prog 71=some (116,5,56,[.int .i64 0,.int .i64 0,.int .i64 0,.int .i64 0,.slice none 0 0]):=Γ
def Adk:BI prog 60=true:=Γ
def ZU:BI prog 119=true:=Γ
def iG:To prog 103=some ([(0,1),(1,1),(2,1)],[.int .i64 0,.int .i64 0,.slice none 0 0]):=Γ
def zU:BI prog 118=true:=Γ
def zT:BI prog 120=true:=Γ
def Adj:BI prog 61=true:=Γ
def lY:BI prog 221=true:=Γ
def yS:BI prog 191=true:=Γ
def uQ:E8 prog 158=some [.int .i64 0,.int .i64 0,.int .i64 0,.int .i64 0]:=Γ
def Sn:To prog 194=some ([(0,1),(1,1),(2,1),(3,1)],[.int .i64 0,.int .i64 0,.int .i64 0,.nilFunc]):=Γ
def yT:BI prog 190=true:=Γ
def Oa:OI prog 190=some (194,4,32,[.int .i64 0,.int .i64 0,.int .i64 0,.nilFunc]):=Γ
def zR:BI prog 122=true:=Γ
def Uy:BI prog 236=true:=Γ
def yH:BI prog 238=true:=Γ
def yI:BI prog 237=true:=Γ
def yN:BI prog 222=true:=Γ
def eU:E8 prog 29=some [.slice none 0 0]:=Γ
def Acn:Afi prog 29=true:=Γ
def yG:BI prog 239=true:=Γ
def yK:BI prog 226=true:=Γ
def yP:BI prog 197=true:=Γ
def lX:BI prog 223=true:=Γ
def yR:BI prog 192=true:=Γ
def U3:BI prog 126=true:=Γ
def Uz:BI prog 196=true:=Γ
def mE:BI prog 193=true:=Γ
def zQ:BI prog 123=true:=Γ
def xV:OI prog 248=some (190,1,24,[.slice none 0 0]):=Γ
def Ae2:prog.underlying 3=some (.int .i64):=Γ
def yU:BI prog 189=true:=Γ
def zS:BI prog 121=true:=Γ
def yL:BI prog 225=true:=Γ
def yM:BI prog 224=true:=Γ
def yQ:BI prog 194=true:=Γ
def uO:E8 prog 194=some [.int .i64 0,.int .i64 0,.int .i64 0,.nilFunc]:=Γ
def ZT:BI prog 124=true:=Γ
def zP:BI prog 125=true:=Γ
def Adi:BI prog 62=true:=Γ
def WG:BI prog 11=true:=Γ
def mG:BI prog 18=true:=Γ
def mH:BI prog 16=true:=Γ
def Adz:BI prog 15=true:=Γ
def Ady:BI prog 24=true:=Γ
def Ya:BI prog 12=true:=Γ
def bD:BI prog 13=true:=Γ
def Adq:BI prog 47=true:=Γ
def mD:BI prog 20=true:=Γ
def Afm:BI prog 8=true:=Γ
def Afl:BI prog 9=true:=Γ
def Ad0:BI prog 10=true:=Γ
def lG:OI prog 75=some (76,1,24,[.slice none 0 0]):=Γ
def KC:OI prog 76=some (50,5,120,[.slice none 0 0,.slice none 0 0,.slice none 0 0,.slice none 0 0,.slice none 0 0]):=Γ
def mL:BI prog 127=true:=Γ
def Adh:BI prog 64=true:=Γ
def tG:OI prog 69=some (36,7,152,[.int .i64 0,.slice none 0 0,.slice none 0 0,.slice none 0 0,.slice none 0 0,.slice none 0 0,.slice none 0 0]):=Γ
def U2:BI prog 128=true:=Γ
def ZS:BI prog 129=true:=Γ
def tT:BI prog 65=true:=Γ
def fC:E8 prog 116=some [.int .i64 0,.int .i64 0,.int .i64 0,.int .i64 0,.slice none 0 0]:=Γ
def Adg:BI prog 66=true:=Γ
def Ys:E8 prog 127=some [.int .i64 0,.int .u64 0]:=Γ
def uV:∀x y c:Int,IntKind.has .u64 x->IntKind.has .u64 y->(0<=c/\c<=1)->∀w,(callFunc 198 #[.int .u64 x,.int .u64 y,.int .u64 c]).run prog w= .ok (.value (.tuple #[.int .u64 (MH x y c).1,.int .u64 (MH x y c).2])) w:=Xa func198 Γ Γ Γ Γ
def Y1:To prog 127=some ([(0,1),(1,1)],[.int .i64 0,.int .u64 0]):=Γ
def iE:To prog 124=some ([(0,1),(1,1),(2,1)],[.int .i64 0,.int .i64 0,.int .i64 0]):=Γ
def fA:E8 prog 124=some [.int .i64 0,.int .i64 0,.int .i64 0]:=Γ
def UJ:prog.underlying 119=some (.map 124 127):=Γ
def xR:eI prog 124=some [1,1,1]:=Γ
def T5:NU prog 124 (λk:AA=>Value.agg (AA.v k).toArray):=NU.agg (f:=AA.v) underlying124 xR (λk=>rfl) (λa b=>rfl) (λk e w=>Γ) (λa b c=>by
 simp only[AA.v,Rf,WA,Agu,TF,Ahb,beq_iff_eq]at c;simp[AA.v,c]) (λa=>by simp[Instr.sameBits,AA.v,TF.2])
def eR:∀w,(zeroValue 127).run prog w= .ok ((λk:AJ=>Value.agg #[.int .i64 (BO k.hi),.int .u64 (IntKind.wrap .u64 k.lo)]) (⟨0,0⟩:AJ)) w:=λw=>Γ
def zO:BI prog 130=true:=Γ
def jM:∀x:AJ,AJ.ok x->(λk:AJ=>Value.agg #[.int .i64 (BO k.hi),.int .u64 (IntKind.wrap .u64 k.lo)]) x=Value.agg (AJ.v x).toArray:=λx b=>by obtain⟨h0,a⟩:=b;simp only[Pr h0,Tz a]
def YZ:BI prog 68=true:=Γ
def tS:BI prog 67=true:=Γ
def uU:∀x y c:Int,IntKind.has .u64 x->IntKind.has .u64 y->(0<=c/\c<=1)->∀w,(callFunc 199 #[.int .u64 x,.int .u64 y,.int .u64 c]).run prog w= .ok (.value (.tuple #[.int .u64 (MG x y c).1,.int .u64 (MG x y c).2])) w:=XZ func199 Γ Γ Γ Γ
def zN:BI prog 131=true:=Γ
def Uw:BI prog 69=true:=Γ
def Adf:BI prog 70=true:=Γ
def xQ:eI prog 127=some [1,1]:=Γ
def tY:BI prog 30=true:=Γ
def Adx:BI prog 32=true:=Γ
def Adw:BI prog 33=true:=Γ
instance pV:Gl Tryz.prog 31 3 3:=⟨Γ⟩
instance pU:Gl Tryz.prog 31 4 4:=⟨Γ⟩
instance pX:Gl Tryz.prog 31 1 1:=⟨Γ⟩
instance Wu:Gl Tryz.prog 36 1 1:=⟨Γ⟩
instance YO:Gl Tryz.prog 133 5 5:=⟨Γ⟩
instance Wv:Gl Tryz.prog 31 0 0:=⟨Γ⟩
instance pW:Gl Tryz.prog 31 2 2:=⟨Γ⟩
instance pT:Gl Tryz.prog 31 5 5:=⟨Γ⟩
instance pS:Gl Tryz.prog 31 6 6:=⟨Γ⟩
instance pR:Gl Tryz.prog 31 7 7:=⟨Γ⟩
instance pQ:Gl Tryz.prog 31 8 8:=⟨Γ⟩
instance aY:Gl Tryz.prog 31 9 9:=⟨Γ⟩
instance kZ:Gl Tryz.prog 31 10 10:=⟨Γ⟩
instance:Gl Tryz.prog 133 0 0:=⟨Γ⟩
instance:Gl Tryz.prog 139 0 0:=⟨Γ⟩
instance:Gl Tryz.prog 215 0 0:=⟨Γ⟩
instance:Gl Tryz.prog 224 0 0:=⟨Γ⟩
instance:Gl Tryz.prog 218 0 0:=⟨Γ⟩
instance:Gl Tryz.prog 221 0 0:=⟨Γ⟩
instance:Gl Tryz.prog 129 0 0:=⟨Γ⟩
instance:Gl Tryz.prog 129 1 1:=⟨Γ⟩
instance:Gl Tryz.prog 133 1 1:=⟨Γ⟩
instance:Gl Tryz.prog 133 2 2:=⟨Γ⟩
instance:Gl Tryz.prog 133 9 9:=⟨Γ⟩
instance:Gl Tryz.prog 133 3 3:=⟨Γ⟩
instance:Gl Tryz.prog 133 10 10:=⟨Γ⟩
instance YP:Gl Tryz.prog 133 4 4:=⟨Γ⟩
instance:Gl Tryz.prog 133 6 6:=⟨Γ⟩
instance:Gl Tryz.prog 133 7 7:=⟨Γ⟩
instance:Gl Tryz.prog 133 8 8:=⟨Γ⟩
instance V9:Gl Tryz.prog 133 11 11:=⟨Γ⟩
instance:Gl Tryz.prog 210 0 0:=⟨Γ⟩
instance:Gl Tryz.prog 210 1 1:=⟨Γ⟩
instance:Gl Tryz.prog 139 1 1:=⟨Γ⟩
instance YK:Gl Tryz.prog 139 4 4:=⟨Γ⟩
instance SR:Gl Tryz.prog 139 5 5:=⟨Γ⟩
instance YN:Gl Tryz.prog 137 0 0:=⟨Γ⟩
instance YM:Gl Tryz.prog 137 1 1:=⟨Γ⟩
instance:Gl Tryz.prog 139 6 7:=⟨Γ⟩
instance:Gl Tryz.prog 139 7 8:=⟨Γ⟩
instance:Gl Tryz.prog 139 8 9:=⟨Γ⟩
instance:Gl Tryz.prog 139 14 15:=⟨Γ⟩
instance:Gl Tryz.prog 139 15 16:=⟨Γ⟩
instance:Gl Tryz.prog 139 3 3:=⟨Γ⟩
instance:Gl Tryz.prog 139 9 10:=⟨Γ⟩
instance:Gl Tryz.prog 139 10 11:=⟨Γ⟩
instance:Gl Tryz.prog 139 11 12:=⟨Γ⟩
instance:Gl Tryz.prog 139 12 13:=⟨Γ⟩
instance:Gl Tryz.prog 139 13 14:=⟨Γ⟩
instance:Gl Tryz.prog 139 2 2:=⟨Γ⟩
instance:Gl Tryz.prog 139 16 17:=⟨Γ⟩
instance:Gl Tryz.prog 215 1 1:=⟨Γ⟩
instance:Gl Tryz.prog 215 2 2:=⟨Γ⟩
instance:Gl Tryz.prog 215 3 3:=⟨Γ⟩
instance:Gl Tryz.prog 215 4 4:=⟨Γ⟩
instance:Gl Tryz.prog 215 5 5:=⟨Γ⟩
instance:Gl Tryz.prog 215 6 6:=⟨Γ⟩
instance:Gl Tryz.prog 224 1 1:=⟨Γ⟩
instance:Gl Tryz.prog 218 1 1:=⟨Γ⟩
instance:Gl Tryz.prog 218 3 3:=⟨Γ⟩
instance:Gl Tryz.prog 218 4 4:=⟨Γ⟩
instance:Gl Tryz.prog 218 2 2:=⟨Γ⟩
instance:Gl Tryz.prog 221 1 1:=⟨Γ⟩
instance:Gl Tryz.prog 221 2 2:=⟨Γ⟩
instance:Gl Tryz.prog 221 3 3:=⟨Γ⟩
instance:Gl Tryz.prog 221 4 4:=⟨Γ⟩
instance:Gl Tryz.prog 221 6 6:=⟨Γ⟩
instance:Gl Tryz.prog 221 5 5:=⟨Γ⟩
instance pP:Gl Tryz.prog 36 0 0:=⟨Γ⟩
instance:Gl Tryz.prog 36 2 2:=⟨Γ⟩
instance:Gl Tryz.prog 36 4 4:=⟨Γ⟩
instance aX:Gl Tryz.prog 36 5 5:=⟨Γ⟩
instance:Gl Tryz.prog 36 6 6:=⟨Γ⟩
instance:Gl Tryz.prog 107 0 0:=⟨Γ⟩
instance:Gl Tryz.prog 107 1 1:=⟨Γ⟩
instance:Gl Tryz.prog 107 3 3:=⟨Γ⟩
instance:Gl Tryz.prog 36 3 3:=⟨Γ⟩
instance:Gl Tryz.prog 103 0 0:=⟨Γ⟩
instance:Gl Tryz.prog 103 1 1:=⟨Γ⟩
instance YQ:Gl Tryz.prog 103 2 2:=⟨Γ⟩
instance Lk:Gl Tryz.prog 91 1 11:=⟨Γ⟩
instance T8:Gl Tryz.prog 91 2 12:=⟨Γ⟩
instance pN:Gl Tryz.prog 91 0 0:=⟨Γ⟩
instance aV:Gl Tryz.prog 93 0 0:=⟨Γ⟩
instance pM:Gl Tryz.prog 93 1 1:=⟨Γ⟩
instance Wt:Gl Tryz.prog 93 2 6:=⟨Γ⟩
instance SQ:Gl Tryz.prog 93 3 13:=⟨Γ⟩
instance:Gl Tryz.prog 145 0 0:=⟨Γ⟩
instance:Gl Tryz.prog 145 1 1:=⟨Γ⟩
instance:Gl Tryz.prog 150 0 0:=⟨Γ⟩
instance:Gl Tryz.prog 150 1 1:=⟨Γ⟩
instance:Gl Tryz.prog 155 0 0:=⟨Γ⟩
instance:Gl Tryz.prog 155 1 1:=⟨Γ⟩
instance:Gl Tryz.prog 160 0 0:=⟨Γ⟩
instance:Gl Tryz.prog 160 1 1:=⟨Γ⟩
instance:Gl Tryz.prog 165 0 0:=⟨Γ⟩
instance:Gl Tryz.prog 165 1 1:=⟨Γ⟩
instance:Gl Tryz.prog 50 0 0:=⟨Γ⟩
instance:Gl Tryz.prog 50 1 1:=⟨Γ⟩
instance:Gl Tryz.prog 50 2 2:=⟨Γ⟩
instance:Gl Tryz.prog 50 3 3:=⟨Γ⟩
instance pO:Gl Tryz.prog 50 4 4:=⟨Γ⟩
instance:Gl Tryz.prog 112 1 11:=⟨Γ⟩
instance:Gl Tryz.prog 107 2 2:=⟨Γ⟩
instance:Gl Tryz.prog 148 1 1:=⟨Γ⟩
instance:Gl Tryz.prog 112 0 0:=⟨Γ⟩
instance lC:Gl Tryz.prog 112 2 16:=⟨Γ⟩
instance:Gl Tryz.prog 148 0 0:=⟨Γ⟩
instance:Gl Tryz.prog 153 0 0:=⟨Γ⟩
instance:Gl Tryz.prog 153 1 1:=⟨Γ⟩
instance:Gl Tryz.prog 163 0 0:=⟨Γ⟩
instance:Gl Tryz.prog 163 1 1:=⟨Γ⟩
instance:Gl Tryz.prog 163 2 2:=⟨Γ⟩
instance:Gl Tryz.prog 163 3 3:=⟨Γ⟩
instance lB:Gl Tryz.prog 112 3 23:=⟨Γ⟩
instance lA:Gl Tryz.prog 112 4 24:=⟨Γ⟩
instance:Gl Tryz.prog 158 1 1:=⟨Γ⟩
instance:Gl Tryz.prog 158 2 2:=⟨Γ⟩
instance:Gl Tryz.prog 158 0 0:=⟨Γ⟩
instance:Gl Tryz.prog 158 3 3:=⟨Γ⟩
instance:Gl Tryz.prog 194 3 3:=⟨Γ⟩
instance:Gl Tryz.prog 194 0 0:=⟨Γ⟩
instance:Gl Tryz.prog 194 2 2:=⟨Γ⟩
instance:Gl Tryz.prog 112 5 25:=⟨Γ⟩
instance:Gl Tryz.prog 194 1 1:=⟨Γ⟩
instance aW:Gl Tryz.prog 52 3 3:=⟨Γ⟩
instance:Gl Tryz.prog 52 4 8:=⟨Γ⟩
instance T9:Gl Tryz.prog 52 1 1:=⟨Γ⟩
instance:Gl Tryz.prog 116 4 4:=⟨Γ⟩
instance:Gl Tryz.prog 116 1 1:=⟨Γ⟩
instance:Gl Tryz.prog 116 2 2:=⟨Γ⟩
instance:Gl Tryz.prog 127 1 1:=⟨Γ⟩
instance:Gl Tryz.prog 127 0 0:=⟨Γ⟩
instance OM:Tf Tryz.prog 23 133 12:=⟨Γ⟩
instance PU:Tf Tryz.prog 24 139 18:=⟨Γ⟩
instance sW:Tf Tryz.prog 22 9 1:=⟨Γ⟩
instance Js:Tf Tryz.prog 32 29 1:=⟨Γ⟩
instance iO:Tf Tryz.prog 25 215 7:=⟨Γ⟩
instance iN:Tf Tryz.prog 26 218 5:=⟨Γ⟩
instance iM:Tf Tryz.prog 27 221 7:=⟨Γ⟩
instance iL:Tf Tryz.prog 28 224 2:=⟨Γ⟩
instance CW:Tf Tryz.prog 29 3 1:=⟨Γ⟩
instance MM:Tf Tryz.prog 130 129 2:=⟨Γ⟩
instance wE:Tf Tryz.prog 131 210 2:=⟨Γ⟩
instance wD:Tf Tryz.prog 264 130 1:=⟨Γ⟩
instance RH:Tf Tryz.prog 34 107 4:=⟨Γ⟩
instance On:Tf Tryz.prog 33 103 3:=⟨Γ⟩
instance iK:Tf Tryz.prog 45 148 2:=⟨Γ⟩
instance iJ:Tf Tryz.prog 46 153 2:=⟨Γ⟩
instance iI:Tf Tryz.prog 47 158 4:=⟨Γ⟩
instance Z2:Tf Tryz.prog 48 163 4:=⟨Γ⟩
instance iP:Tf Tryz.prog 248 190 1:=⟨Γ⟩
instance RY:Tf Tryz.prog 190 194 4:=⟨Γ⟩
instance R5:Tf Tryz.prog 37 52 9:=⟨Γ⟩
instance Vj:Tf Tryz.prog 75 76 1:=⟨Γ⟩
instance iH:Tf Tryz.prog 76 50 5:=⟨Γ⟩
instance sV:Tf Tryz.prog 71 116 5:=⟨Γ⟩
instance Ns:Sc Tryz.prog 31 11:=⟨Γ⟩
instance sO:Fc (LD Tryz.prog 23 1 false=true):=⟨Γ⟩
instance sN:Fc (LD Tryz.prog 24 1 false=true):=⟨Γ⟩
instance sP:Fc (LD Tryz.prog 22 1 false=true):=⟨Γ⟩
instance JB:Sc Tryz.prog 36 7:=⟨Γ⟩
instance RU:Sc Tryz.prog 133 12:=⟨Γ⟩
instance Xh:Fc (LD Tryz.prog 32 1 false=true):=⟨Γ⟩
instance GC:Fc (LD Tryz.prog 29 1 false=true):=⟨Γ⟩
instance vA:Fc (LD Tryz.prog 9 1 false=true):=⟨Γ⟩
instance Fl:Fc (LD Tryz.prog 3 1 false=true):=⟨Γ⟩
instance sM:Fc (LD Tryz.prog 25 1 false=true):=⟨Γ⟩
instance sL:Fc (LD Tryz.prog 26 1 false=true):=⟨Γ⟩
instance sK:Fc (LD Tryz.prog 27 1 false=true):=⟨Γ⟩
instance sJ:Fc (LD Tryz.prog 28 1 false=true):=⟨Γ⟩
instance vD:Fc (LD Tryz.prog 225 1 false=true):=⟨Γ⟩
instance Yw:Fc (LD Tryz.prog 4 1 false=true):=⟨Γ⟩
instance vB:Sc Tryz.prog 261 2:=⟨Γ⟩
instance Pv:Sc Tryz.prog 139 18:=⟨Γ⟩
instance gJ:Sc Tryz.prog 215 7:=⟨Γ⟩
instance gG:Sc Tryz.prog 224 2:=⟨Γ⟩
instance gI:Sc Tryz.prog 218 5:=⟨Γ⟩
instance gH:Sc Tryz.prog 221 7:=⟨Γ⟩
instance WT:Sc Tryz.prog 129 2:=⟨Γ⟩
instance Pw:Fc (LD Tryz.prog 130 1 false=true):=⟨Γ⟩
instance gL:Fc (LD Tryz.prog 131 1 false=true):=⟨Γ⟩
instance vE:Sc Tryz.prog 210 2:=⟨Γ⟩
instance vC:Sc Tryz.prog 232 3:=⟨Γ⟩
instance sI:Fc (LD Tryz.prog 34 1 false=true):=⟨Γ⟩
instance Ja:Sc Tryz.prog 107 4:=⟨Γ⟩
instance Zr:Fc (LD Tryz.prog 33 1 false=true):=⟨Γ⟩
instance RW:Sc Tryz.prog 103 3:=⟨Γ⟩
instance ML:Fc (LD Tryz.prog 89 1 false=true):=⟨Γ⟩
instance PT:Sc Tryz.prog 50 5:=⟨Γ⟩
instance vK:Sc Tryz.prog 148 2:=⟨Γ⟩
instance:Fc (LD Tryz.prog 45 1 false=true):=⟨Γ⟩
instance vJ:Sc Tryz.prog 153 2:=⟨Γ⟩
instance:Fc (LD Tryz.prog 46 1 false=true):=⟨Γ⟩
instance vH:Sc Tryz.prog 158 4:=⟨Γ⟩
instance:Fc (LD Tryz.prog 47 1 false=true):=⟨Γ⟩
instance vG:Sc Tryz.prog 163 4:=⟨Γ⟩
instance Abq:Fc (LD Tryz.prog 48 1 false=true):=⟨Γ⟩
instance vL:Sc Tryz.prog 112 26:=⟨Γ⟩
instance gE:Fc (LD Tryz.prog 71 1 false=true):=⟨Γ⟩
instance:Fc (LD Tryz.prog 190 1 false=true):=⟨Γ⟩
instance vF:Fc (LD Tryz.prog 192 1 false=true):=⟨Γ⟩
instance gK:Sc Tryz.prog 194 4:=⟨Γ⟩
instance TR:Fc (LD Tryz.prog 76 1 false=true):=⟨Γ⟩
instance gP:Sc Tryz.prog 116 5:=⟨Γ⟩
instance gN:Fc (LD Tryz.prog 125 1 false=true):=⟨Γ⟩
instance UK:Sc Tryz.prog 127 2:=⟨Γ⟩
instance gO:Sc Tryz.prog 124 3:=⟨Γ⟩
instance:Kv CH 0 AC (·.R):=⟨Zb⟩
instance:Kv CH 1 AC (·.X):=⟨VG⟩
instance:Kv B4 2 AC (·.At):=⟨PY⟩
instance:Kv B4 4 (A9.sl CH) (·.Bk):=⟨Qd⟩
instance:Kv B4 5 (A9.sl AC) (·.An):=⟨Qc⟩
instance:Kv B4 6 AC (·.Y):=⟨Ce.f_Num⟩
instance:Kv B4 7 AC (·.T):=⟨Ce.f_Den⟩
instance:Kv B4 11 (A9.sl Kt) (·.U):=⟨Ce.f_Rain⟩
instance:Kv L3 0 (A9.sl CH) (·.Aw):=⟨PQ⟩
instance:Kv L3 1 (A9.sl CH) (·.Ax):=⟨PR⟩
instance:Kv CD 1 AC (·.H):=⟨BG.f_Kind⟩
instance:Kv CD 3 AC (·.C):=⟨BG.f_To⟩
instance:Kv CD 4 (A9.sl CH) (·.As):=⟨LT⟩
instance:Kv CD 5 L3 (·.Ae):=⟨Iu⟩
instance:Kv CD 7 AC (·.W):=⟨Gz⟩
instance:Kv CD 8 AC (·.Ag):=⟨Lj⟩
instance:Kv CD 9 AC (·.Bb):=⟨PP⟩
instance:Kv CD 10 AC (·.Bc):=⟨Of⟩
instance:Kv CD 11 AC (·.Y):=⟨BG.f_Num⟩
instance:Kv CD 12 AC (·.T):=⟨BG.f_Den⟩
instance:Kv CD 13 AC (·.Az):=⟨RL⟩
instance:Kv CD 14 AC (·.Ba):=⟨RM⟩
instance:Kv CD 15 AC (·.Aq):=⟨Kl⟩
instance:Kv CD 16 AC (·.Al):=⟨Km⟩
instance:Kv Bz 0 A9.str (·.G):=⟨AF.f_Name⟩
instance:Kv Bz 1 (A9.sl A9.str) (·.I):=⟨Ij⟩
instance:Kv Bz 2 AC (·.L):=⟨OH⟩
instance:Kv Bz 3 (A9.sl B4) (·.A):=⟨Ck⟩
instance:Kv Bz 4 (A9.sl CD) (·.E):=⟨Hu⟩
instance:Kv Bz 5 (A9.sl Hj) (·.Af):=⟨LC⟩
instance:Kv Bz 6 (A9.sl E7) (·.Ah):=⟨Lr⟩
instance:Kv Bz 7 (A9.sl HC) (·.Ai):=⟨Mg⟩
instance:Kv Bz 8 (A9.sl Db) (·.Ak):=⟨Ky⟩
instance:Kv Bz 9 (A9.sl AC) (·.Aj):=⟨AF.f_Room⟩
instance:Kv Bz 10 AC (·.M):=⟨AF.f_Err⟩
instance:Kv A5 2 (A9.sl AC) (·.N):=⟨AY.f_Part⟩
instance:Kv BZ 0 AC (·.Z):=⟨Th⟩
instance:Kv BZ 3 A9.bool (·.Am):=⟨XT⟩
instance:Kv BP 0 AC (·.B):=⟨AH.f_Hour⟩
instance:Kv BP 1 (A9.sl (A9.sl AC)) (·.D):=⟨LR⟩
instance:Kv BP 2 (A9.sl AC) (·.P):=⟨PO⟩
instance:Kv BP 3 (A9.sl A5) (·.F):=⟨KQ⟩
instance:Kv BP 4 (A9.sl BZ) (·.Q):=⟨Qb⟩
instance:Kv BP 5 (A9.sl AC) (·.K):=⟨AH.f_In⟩
instance:Kv BP 6 (A9.sl AC) (·.O):=⟨LS⟩
instance:Kv DU 1 AC (·.Bi):=⟨RK⟩
instance:Kv DU 2 AC (·.Bd):=⟨FO.f_Litres⟩
instance:Kv BJ 0 (A9.sl AC) (·.U):=⟨AX.f_Rain⟩
instance:Kv BJ 1 (A9.sl Ct) (·.Ab):=⟨Lq⟩
instance:Kv BJ 2 (A9.sl Fj) (·.Ac):=⟨NA⟩
instance:Kv BJ 3 (A9.sl DU) (·.V):=⟨Me⟩
instance:Kv BJ 4 (A9.sl Di) (·.Ad):=⟨LB⟩
instance:Kv Eh 0 (A9.sl AC) (·.a):=⟨DP.f_a⟩
instance:Kv Eh 1 (A9.sl AC) (·.b):=⟨DP.f_b⟩
instance:Kv Lg 0 (A9.sl Ct) (·.a):=⟨Ke.f_a⟩
instance:Kv Lg 1 (A9.sl Ct) (·.b):=⟨Ke.f_b⟩
instance:Kv Ob 0 (A9.sl Fj) (·.a):=⟨OG.f_a⟩
instance:Kv Ob 1 (A9.sl Fj) (·.b):=⟨OG.f_b⟩
instance:Kv M8 0 (A9.sl DU) (·.a):=⟨L7.f_a⟩
instance:Kv M8 1 (A9.sl DU) (·.b):=⟨L7.f_b⟩
instance:Kv M9 0 (A9.sl Di) (·.a):=⟨L8.f_a⟩
instance:Kv M9 1 (A9.sl Di) (·.b):=⟨L8.f_b⟩
instance:Kv BY 1 AC (·.J):=⟨AM.f_From⟩
instance:Kv BY 2 AC (·.C):=⟨AM.f_To⟩
instance:Kv BY 4 (A9.sl AC) (·.N):=⟨AM.f_Part⟩
instance:Kv A6 0 AC (·.to_):=⟨Mz⟩
instance:Kv A6 1 AC (·.delay):=⟨OE⟩
instance:Kv A6 2 AC (·.way):=⟨O3⟩
instance:Kv A6 3 (A9.fnr Tryz.prog (λS h vs (x:xq)=>∃w0:Value,vs=[w0]/\Sl S h AC w0 x) (λS h v (y:(xq×xq))=>∃w0 w1:Value,v= .tuple #[w0,w1]/\Sl S h AC w0 y.1/\Sl S h AC w1 y.2)) (·.take):=⟨OT⟩
instance:Kv C2 1 AC (·.Bf):=⟨Ht⟩
instance:Kv C2 3 BJ (·.K):=⟨BT.f_In⟩
instance:Kv C2 8 (A9.sl AC) (·.Bm):=⟨Oe⟩
instance:Kv Ih 0 AC (·.hi):=⟨VF⟩
instance:Kv Ih 1 (A9.intk .u64) (·.lo):=⟨OF⟩
end Go.Proofs.YtabonambpbofgaaGreat
