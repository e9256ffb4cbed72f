import Derived.Test.YtedgiljmffngoaaGreatPCore12
import Derived.MapKept
namespace Go.Proofs.YtedgiljmffngoaaGreat
set_option linter.all false
open Go.RowKit
def jQ {α}{p:α→Prop}:∀x∈([]:List α),p x:=λu h=>by cases h
def all_cons {α}{p:α→Prop}{x:α}{l:List α}(h:p x) (t:∀x∈l,p x):∀y∈x::l,p y:=λu a=>by
 rcases Aae.1 a with rfl|a
 ·exact h
 ·exact t u a
def vH {α}{p:α→Prop}{l:List α}{i:Int}{z:α}(h:∀x∈l,p x) (a:ix l i=some z):p z:=h _ (Abf (Dy a).2)
def jN (b:Bool):b=false∨b=true:=by cases b<;>simp
def M8:∀u∈([]:List Value),u.oneCell'=true:=λu h=>by cases h
def CM {v:Value}{vs:List Value}(h:v.oneCell'=true) (t:∀u∈vs,u.oneCell'=true):∀u∈v::vs,u.oneCell'=true:=λu a=>by
 rcases Aae.1 a with rfl|a
 ·exact h
 ·exact t u a
def St.osone {α}{r:A6 α}{T:Nat}{v:Value}{l:List α}{S:Nat→Prop}{L:List HP}{h:AS}(a:St S L h) (b:OS r T v l∈L):v.oneCell'=true:=(a.oslAll b).one
def Nd:Value→Value→Bool
 | .agg a,.agg b=>Zc a.toList b.toList
 |a,b=>gJ a b
def Na {κ β}(kv:κ→Value) (m:List (κ×β)) (k:κ):Option β:=(m.find? λe=>Nd (kv k) (kv e.1)).map (·.2)
def Ra {κ β}(kv:κ→Value):List (κ×β)→κ→β→List (κ×β)
 |[],k,x=>[(k,x)]
 |(a,y)::r,k,x=>if Nd (kv k) (kv a) then (k,x)::r else (a,y)::Ra kv r k x
def U6 (p:Value→Bool):List MapEntry→Nat→Option (Nat×Value)
 |[],_=>none
 |e::es,i=>if p e.key then some (i,e.val) else U6 p es (i+1)
structure Nk {κ:Type}(P:Program) (T:TypeId) (kv:κ→Value):Prop where
 chk:∀k e w,(Instr.checkKey e 10000 T (kv k)).run P w= .ok () w
 find:∀k (es:List MapEntry) w,(∀e∈es,∃k',e.key=kv k')→(Instr.findKey T (kv k) es).run P w= .ok (U6 (Nd (kv k)) es 0) w
 same:∀k k',Nd (kv k) (kv k')=true→Instr.sameBits 10000 (kv k') (kv k)=true
def O3 (a:TypeDesc) (k:Value) (p:Value→Bool):∀(es:List MapEntry) (i:Nat),(∀e∈es,Instr.sameNow a k e.key=some (p e.key))→Instr.findNow a k es i=some (U6 p es i)
 |[],_,_=>rfl
 |e::es,i,h=>by
  have b:=h e (by simp);have c:=O3 a k p es (i+1) λe d=>h e (by simp [d]);simp only[Instr.findNow,b,U6];cases p e.key
  ·simpa using c
  ·rfl
def O4 {P:Program}(T:TypeId) (k:Value) (p:Value→Bool) (w:World):∀(es:List MapEntry) (i:Nat),(∀e∈es,(Op.equal T k e.key).run P w= .ok (p e.key) w)→(Instr.findAsking T k es i).run P w= .ok (U6 p es i) w
 |[],_,_=>rfl
 |e::es,i,h=>by
  have a:=h e (by simp);have b:=O4 T k p w es (i+1) λe c=>h e (by simp [c]);simp only[Instr.findAsking,Sem.run_bind,a,Result.andThen_ok,U6];cases p e.key
  ·simpa using b
  ·rfl
def Rp {a b:ByteArray}:(a==b)=true↔a=b:=by
 obtain⟨a⟩:=a;obtain⟨b⟩:=b;rw[show ((⟨a⟩:ByteArray)==⟨b⟩)=(a==b) from rfl];simp
def Nk.str {P:Program}{T:TypeId}(b:P.underlying T=some .string) (c:∀(s:ByteArray) e w,(Instr.checkKey e 10000 T (.string s)).run P w= .ok () w):Nk P T Value.string where
 chk:=c
 find:=λk es w h=>by
  have:Instr.findNow .string (.string k) es 0=some (U6 (Nd (.string k)) es 0):=O3 _ _ _ es 0 λe d=>by obtain⟨a,g⟩:=h e d;rw[g];rfl
  simp [Instr.findKey,run_underlying b,this]
 same:=λk a h=>by
  have:k=a:=Rp.1 (by simpa [Nd,gJ] using h);subst this;simp [Instr.sameBits,Rp.2]
def Nk.int {P:Program}{T:TypeId}{kd:IntKind}(b:P.underlying T=some (.int kd)) (c:∀(s:Int) e w,(Instr.checkKey e 10000 T (.int kd s)).run P w= .ok () w):Nk P T (Value.int kd) where
 chk:=c
 find:=λk es w h=>by
  have:Instr.findNow (.int kd) (.int kd k) es 0=some (U6 (Nd (.int kd k)) es 0):=O3 _ _ _ es 0 λe d=>by
   obtain⟨a,g⟩:=h e d;rw[g];simp [Instr.sameNow,Nd,gJ,SZ]
  simp [Instr.findKey,run_underlying b,this]
 same:=λk a h=>by
  have:k=a:=by simpa [Nd,gJ] using h
  subst this;simp [Instr.sameBits]
def Nk.agg {κ:Type}{P:Program}{T:TypeId}{f:κ→List Value}{l:List Nat}{i:Array _}(m:P.underlying T=some (.struct i)) (o:jA P T=some l) (n:∀k,(f k).map Mc=l) (p:∀a b,Qh (f a) (f b)=true)
  (q:∀k e w,(Instr.checkKey e 10000 T (.agg (f k).toArray)).run P w= .ok () w) (s:∀a b,Zc (f a) (f b)=true→f a=f b) (t:∀a,Instr.sameBits 10000 (.agg (f a).toArray) (.agg (f a).toArray)=true):Nk P T (λk=>Value.agg (f k).toArray) where
 chk:=q
 find:=λk es w h=>by
  have d:(Instr.findAsking T (.agg (f k).toArray) es).run P w= .ok (U6 (Nd (.agg (f k).toArray)) es 0) w:=O4 T _ _ w es 0 λe u=>by
   obtain⟨c,v⟩:=h e u;rw[v];have:=(WQ (w:=w) o (n k) (n c) (p k c)).1;simpa [Op.equal,Op.maxDepth,Nd] using this
  have g:Instr.findNow (.struct i) (.agg (f k).toArray) es 0=some (U6 (Nd (.agg (f k).toArray)) es 0)∨Instr.findNow (.struct i) (.agg (f k).toArray) es 0=none:=by
   cases es with
   |nil=>exact .inl rfl
   |cons e es=>exact .inr rfl
  rcases g with j|j
  ·simp [Instr.findKey,run_underlying m,j]
  ·simp [Instr.findKey,run_underlying m,j,d]
 same:=λk c h=>by
  have h':Zc (f k) (f c)=true:=by simpa [Nd] using h
  have:=s k c h';simp only[this];exact t c
def OE (es:List MapEntry) (c:Nat):Prop:=(es.map (·.born)).Nodup∧∀x,x∈es→x.born<c
def OE.push {es:List MapEntry}{c:Nat}(k:OE es c) (e:MapEntry) (l:e.born=c):OE (es++[e]) (c+1):=by
 refine⟨?_,λx d=>?_⟩
 ·rw[Abt,List.nodup_append];refine⟨k.1,by simp,λa g b i=>?_⟩;simp only[Aaz,List.map_nil,Abi] at i;obtain⟨y,j,rfl⟩:=Abg.1 g;have:=k.2 y j;omega
 ·rcases Aa0.1 d with d|d
  ·have:=k.2 x d;omega
  ·simp only[Abi] at d;subst d;omega
def OE.of {es a:List MapEntry}{c:Nat}(k:OE es c) (h:a.map (·.born)=es.map (·.born)):OE a c:=by
 refine⟨by rw[h];exact k.1,λx b=>?_⟩;have:x.born∈es.map (·.born):=by rw[←h];exact Abg.2 ⟨x,b,rfl⟩
 obtain⟨y,d,e⟩:=Abg.1 this;have:=k.2 y d;omega
def WB (es:List MapEntry) (j:Nat) (f:MapEntry→MapEntry) (a:∀e,(f e).born=e.born):(es.modify j f).map (·.born)=es.map (·.born):=by
 apply Abj;intro i;simp only[Ab7,List.getElem?_modify];by_cases e:j=i
 ·subst e;cases es[j]? <;>simp [a]
 ·simp [e]
def MP {κ β:Type}(kv:κ→Value) (vv:β→Value) (b:Nat) (m:List (κ×β)):HP where
 holds:=λ_ F h=>(∀c,F c↔c=b)∧∃es a,h[b]? =some (.map es a)∧es.toList.map (λe=>(e.key,e.val))=(m.map λe=>(kv e.1,vv e.2))∧OE es.toList a
 loc:=λ⟨d,es,c,g,i⟩ _ e=>⟨d,es,c,(e _ (.inr ((d _).2 rfl))).trans g,i⟩
def MP.flat {κ β}{kv:κ→Value}{vv:β→Value}{b m}:(MP kv vv b m).Flat:=λ{_ _ _ _} k=>k
section
variable {κ β:Type}{kv:κ→Value}{vv:β→Value}
def TN:∀{es:List MapEntry}{m:List (κ×β)},es.map (λe=>(e.key,e.val))=m.map (λe=>(kv e.1,vv e.2))→∀e∈es,∃b,e.key=kv b
 |[],_,_,_,a=>by cases a
 |x::es,[],h,_,_=>by simp at h
 |x::es,y::m,h,e,a=>by
  simp only[Aaz,List.cons.injEq,Acs] at h;rcases Aae.1 a with rfl|a
  ·exact⟨_,h.1.1⟩
  ·exact TN h.2 e a
def YM (k:κ):∀{es:List MapEntry}{m:List (κ×β)}(i:Nat),es.map (λe=>(e.key,e.val))=m.map (λe=>(kv e.1,vv e.2))→(U6 (Nd (kv k)) es i).map (·.2)=(Na kv m k).map vv
 |[],[],_,_=>rfl
 |[],_::_,_,h=>by simp at h
 |x::es,[],_,h=>by simp at h
 |x::es,y::m,i,h=>by
  simp only[Aaz,List.cons.injEq,Acs] at h;have a:=YM k (i+1) h.2;simp only[U6,h.1.1,Na,List.find?_cons] at a ⊢;cases Nd (kv k) (kv y.1)
  ·simpa using a
  ·simp [h.1.2]
def WO (k:κ):∀{es:List MapEntry}{m:List (κ×β)}(i:Nat) (x:β),es.map (λe=>(e.key,e.val))=m.map (λe=>(kv e.1,vv e.2))→U6 (Nd (kv k)) es i=none→Ra kv m k x=m++[(k,x)]
 |[],[],_,_,_,_=>rfl
 |[],_::_,_,_,h,_=>by simp at h
 |x::es,[],_,_,h,_=>by simp at h
 |x::es,y::m,i,z,h,a=>by
  simp only[Aaz,List.cons.injEq,Acs] at h;simp only[U6,h.1.1] at a;split at a
  ·cases a
  ·rename_i b;simp only[Ra,b,Ab4,Ab5,WO k (i+1) z h.2 a,Aa4]
def WN (k:κ) (u:Value):∀{es:List MapEntry}{m:List (κ×β)}(i j:Nat) (v:Value) (x:β),es.map (λe=>(e.key,e.val))=m.map (λe=>(kv e.1,vv e.2))→U6 (Nd (kv k)) es i=some (j,v)→
  i≤j∧j-i<es.length∧(∃a,(es[j-i]?).map (·.key)=some (kv a)∧Nd (kv k) (kv a)=true)∧(es.modify (j-i) λe=>{ e with key:=kv k,val:=vv x}).map (λe=>(e.key,e.val))=(Ra kv m k x).map λe=>(kv e.1,vv e.2)
 |[],_,_,_,_,_,_,h=>by simp [U6] at h
 |x::es,[],_,_,_,_,h,_=>by simp at h
 |x::es,y::m,i,j,v,z,h,b=>by
  simp only[Aaz,List.cons.injEq,Acs] at h;simp only[U6,h.1.1] at b;split at b
  ·rename_i c;obtain⟨rfl,rfl⟩:i=j∧x.val=v:=by simpa using b
   refine⟨Aal _,by simp,⟨y.1,by simp [h.1.1],c⟩,?_⟩;simp [Ra,c,h.2]
  ·rename_i c;obtain⟨o,d,⟨a,g,l⟩,n⟩:=WN k u (i+1) j v z h.2 b;have e:j-i=(j-(i+1))+1:=by omega
   refine⟨by omega,by rw[e];simpa using d,⟨a,by rw[e];simpa using g,l⟩,?_⟩;rw[e];simp only[List.modify_succ_cons,Aaz,Ra,c,Ab4,Ab5,n,h.1.1,h.1.2]
end
section
variable {P:Program}{ops:Array Oper}{C:World→Prop}{Q:Act→Prop}{n:FN}{m m':SM}{rest:List Oper}
variable {d:Nat}{ty:TypeId}{pos:String}{af:Array Edge}{X Y Z:Operand}{t t1 t2:TypeId}{v p u:Value}{S:Nat→Prop}{L L2:List HP}{h:AS}{b:Nat}
variable {κ β:Type}{kv:κ→Value}{vv:β→Value}{l:List (κ×β)}{k0:κ}{z:β}{kt et:TypeId}
def W2 {w:World}{j:Bool}(k:P.underlying t=some (.map kt et)) (g:Nk P kt kv) (q:∀w,(zeroValue et).run P w= .ok (vv z) w) {es:Array MapEntry}{c:Nat}(m:w.heap[b]? =some (.map es c)) (n:es.toList.map (λe=>(e.key,e.val))=l.map λe=>(kv e.1,vv e.2)):
  (Instr.lookup t (.map (some b)) (kv k0) j).run P w= .ok (if j then .tuple #[vv ((Na kv l k0).getD z),.bool (Na kv l k0).isSome] else vv ((Na kv l k0).getD z)) w:=by
 have a:=g.find k0 es.toList w (TN n);have d:=YM (kv:=kv) (vv:=vv) k0 0 n;have s:=q w;cases o:U6 (Nd (kv k0)) es.toList 0 with
 |none=>
  rw[o] at a d;have i:Na kv l k0=none:=by simpa using d.symm
  simp [Instr.lookup,run_underlying k,MapKept.run_getObj_map m,g.chk,a,s,i]
 |some r=>
  rw[o] at a d;obtain⟨y,i,p⟩:∃y,Na kv l k0=some y∧vv y=r.2:=Abn.1 (by simpa using d.symm);obtain⟨u,v⟩:=r;simp only at p;subst p;simp [Instr.lookup,run_underlying k,MapKept.run_getObj_map m,g.chk,a,i]
def XV {j:Bool}(o:CK C h) (p:St S L h) (q:MP kv vv b l∈L) (s:BV m X=some (.map (some b))) (v:BV m Y=some (kv k0)) (x:P.underlying t=some (.map kt et)) (y:Nk P kt kv) (A:∀w,(zeroValue et).run P w= .ok (vv z) w) (hd:Nat.blt d n.1=true)
  (B:(if j then .tuple #[vv ((Na kv l k0).getD z),.bool (Na kv l k0).isSome] else vv ((Na kv l k0).getD z))=u)
  (k:QF P ops C Q rest n ((d,u)::m)):QF P ops C Q (⟨some d,.lookup t X Y j,ty,pos,af,none⟩::rest) n m:=λa g=>by
 refine Dx g hd (λw D=>?_) k;obtain⟨F,⟨G,es,c,H,I,_⟩,i⟩:=p.get q;have J:w.heap[b]? =some (.map es c):=(o w D b (i b ((G b).2 rfl)).1).trans H;simp [execOp,g.eval s,g.eval v,W2 x y A J I,B]
end
section
variable {P:Program}{ops:Array Oper}{Q:Exit→Act→World→Prop}{n:FN}{m:SM}{rest:List Oper}
variable {d:Nat}{ty:TypeId}{pos:String}{af:Array Edge}{X Y Z:Operand}{B w:World}{h:AS}{S:Nat→Prop}{L L2:List HP}{v:Value}{t kt et:TypeId}{b:Nat}
variable {κ β:Type}{kv:κ→Value}{vv:β→Value}{l:List (κ×β)}{k0:κ}{x:β}
def XX (hs:St S L h) (rp:Mo L (MP kv vv b l) (MP kv vv b (Ra kv l k0 x)) L2) (hx:BV m X=some (.map (some b))) (hy:BV m Y=some (kv k0)) (hz:BV m Z=some (vv x)) (hT:P.underlying t=some (.map kt et)) (G:Nk P kt kv)
  (k:∀h',St S L2 h'→CG S h S h'→LF P ops Q rest B h' n m):LF P ops Q (⟨none,.mapUpdate t X Y Z,ty,pos,af,none⟩::rest) B h n m:=by
 intro a w q u;refine wpList_plain rfl λK v=>?_;unfold Oper.wp;obtain⟨M,p,_⟩:=rp.pick;obtain⟨F,⟨g1,es,c,g2,H,g4⟩,hF,_⟩:=Sp.pick p hs.2;have y:w.heap[b]? =some (.map es c):=by rw[u.heap];exact g2
 have I:=G.find k0 es.toList w (TN H);have z:∀(o:Obj) (h0:w.heap=h),(∀c',c'≠b→(w.heap.setIfInBounds b o)[c']? =h[c']?)∧(w.heap.setIfInBounds b o)[b]? =some o∧(w.heap.setIfInBounds b o).size=h.size:=λo h0=>by
  have J:b<w.heap.size:=(Abb.1 y).1;refine⟨λc' A=>by rw[Ad3 (Ne.symm A),h0],?_,by simp [h0]⟩;rw[Array.getElem?_setIfInBounds_self];simp [J]
 have C:∀(d:Array MapEntry) (c':Nat),d.toList.map (λe=>(e.key,e.val))=(Ra kv l k0 x).map (λe=>(kv e.1,vv e.2))→OE d.toList c'→wpList P ops Q rest a { w with heap:=w.heap.setIfInBounds b (.map d c')}:=λd c' he U=>by
  obtain⟨s1,s2,s3⟩:=z (.map d c') u.heap;have V:Wd B (w.heap.setIfInBounds b (.map d c')) { w with heap:=w.heap.setIfInBounds b (.map d c')}:=⟨rfl,u.os,u.tape,u.out⟩
  obtain⟨u1,u2⟩:=hs.upd (h':=w.heap.setIfInBounds b (.map d c')) rp (by omega) λF k1 k2=>⟨F,⟨k1.1,d,c',s2,he,U⟩,λc A=> .inl A,λc _ A=>s1 c λe=>A ((k1.1 c).2 e)⟩
  exact k _ u1 u2 a _ q V
 cases i:U6 (Nd (kv k0)) es.toList 0 with
 |none=>
  rw[i] at I;have g:(execOp a.eval ⟨none,.mapUpdate t X Y Z,ty,pos,af,none⟩).run P w= .ok .skip { w with heap:=w.heap.setIfInBounds b (.map (es.push { key:=kv k0,val:=vv x,born:=c}) (c+1))}:=by
   simp [execOp,q.eval hx,q.eval hy,q.eval hz,Instr.mapUpdate,run_underlying hT,MapKept.run_getObj_map y,G.chk,I,MapKept.run_setObj_map _ y]
  rw[g];refine v _ _ (C _ _ ?_ (by rw[Array.toList_push];exact g4.push _ rfl));rw[WO k0 0 x H i];simp [H]
 |some r=>
  obtain⟨j,r2⟩:=r;rw[i] at I;obtain⟨_,q2,⟨W,q3,q4⟩,q5⟩:=WN k0 (vv x) 0 j r2 x H i;have D:((es[j]?).map (·.key)).getD (kv k0)=kv W:=by
   have:(es[j]?).map (·.key)=some (kv W):=by simpa using q3
   simp [this]
  have s:(Instr.keyThatStays (kv W) (kv k0)).run P w= .ok (kv k0) w:=by simp [Instr.keyThatStays,G.same _ _ q4]
  have g:(execOp a.eval ⟨none,.mapUpdate t X Y Z,ty,pos,af,none⟩).run P w= .ok .skip { w with heap:=w.heap.setIfInBounds b (.map (es.modify j λe=>{ e with key:=kv k0,val:=vv x}) c)}:=by
   simp [execOp,q.eval hx,q.eval hy,q.eval hz,Instr.mapUpdate,run_underlying hT,MapKept.run_getObj_map y,G.chk,I,D,s,MapKept.run_setObj_map _ y]
  rw[g];refine v _ _ (C _ _ ?_ (by rw[Array.toList_modify];exact g4.of (WB _ _ _ λ_=>rfl)));simpa using q5
def fX {K E:TypeId}(hd:Nat.blt d n.1=true) (o:St S L h) (kv:κ→Value) (vv:β→Value)
  (k:∀b h',St S (MP kv vv b []::L) h'→CG S h S h'→LF P ops Q rest B h' n ((d,.map (some b))::m)):LF P ops Q (⟨some d,.makeMap t none,ty,pos,af,none⟩::rest) B h n m:=by
 intro a w p l;refine wpList_plain rfl λK g=>?_;unfold Oper.wp;have c:(execOp a.eval ⟨some d,.makeMap t none,ty,pos,af,none⟩).run P w= .ok (.value (.map (some w.heap.size))) (w.alloc (.map #[] 0)):=by
  first|rfl|(simp [execOp,Instr.makeMap,newObj,Sem.run])
 rw[c];obtain⟨q,s⟩:=o.add (h':=h.push (.map #[] 0)) (H':=MP kv vv h.size []) (by simp) (λb i=>Gp _ _ _ i) ⟨λb=>b=h.size,⟨λ_=>Abx,#[],0,Kn _ _,rfl,List.nodup_nil,λx u=>by cases u⟩,λb i=>by subst i;simp⟩;have j:=l.heap;exact g _ _ (k w.heap.size _ (by rw[j];exact q) s _ _ (p.put hd _) (l.alloc _))
end
def xE (P:Program) (T:TypeId):Option (List (Nat×Nat)×List Value):=
 match P.underlying T,D1 P T with
 |some (.array n e),some z=>(P.info? e).map λi=>((List.range n).map λk=>(k*i.size,i.size),z)
 |_,_=>none
def yK (P:Program) (t len sz:Nat):Bool:=
 match P.underlying t with
 |some (.array n e)=>Nat.beq n len&&(match P.info? e with|some i=>Nat.beq i.size sz|none=>false)
 |_=>false
def UQ {p q:Nat→Option (Nat×Nat)}(h:∀i x,p i=some x→q i=some x):∀(pv:List (Nat×Value)) (cs cs':Array Value),Instr.fill p cs pv=some cs'→Instr.fill q cs pv=some cs'
 |[],_,_,e=>e
 |(i,v)::r,cs,cs',e=>by
  simp only[Instr.fill] at e ⊢;cases a:p i with
  |none=>rw[a] at e;cases e
  |some x=>
   obtain⟨o,s⟩:=x;rw[a] at e;rw[h i _ a];simp only at e ⊢;split at e
   ·cases e
   ·rename_i b;rw[zY b];exact UQ h r _ _ e
def eT {P:Program}{T:TypeId}{pl z pv cs}(h:xE P T=some (pl,z)) (o:NB pl z pv=some cs):P.built T pv=some cs.toArray:=by
 unfold xE at h;split at h
 ·rename_i n e p s a;simp only[Abn,Acs] at h;obtain⟨g,b,rfl,rfl⟩:=h;unfold D1 at a;simp only[Abn,Acf] at a;obtain⟨w,⟨i,t,c⟩,d⟩:=a;simp only[Program.built,t,s,c,b];have l:=N1 _ pv p cs o;rw[←d] at l;have u:=UQ (q:=λi=>some (i*g.size,g.size)) (λj x m=>by
   rw[List.getElem?_toArray,Ab7] at m;obtain⟨k,v,rfl⟩:=Abn.1 m;obtain⟨_,rfl⟩:=Aai.1 v;simp) pv _ _ l
  simpa using u
 ·cases h
section
variable {P:Program}{ops:Array Oper}{C:World→Prop}{Q:Act→Prop}{n:FN}{m m':SM}{rest:List Oper}
variable {d:Nat}{ty:TypeId}{pos:String}{af:Array Edge}{X Y Z:Operand}{t:TypeId}{S:Nat→Prop}{L:List HP}{h:AS}{i:Int}{kd:IntKind}
def kN {T:TypeId}{b:Array (Nat×Operand)}{pl z pv cs}(s:xE P T=some (pl,z)) (c:b.toList.mapM (iJ m)=some pv) (o:NB pl z pv=some cs) (hd:Nat.blt d n.1=true) (k:QF P ops C Q rest n ((d,.agg cs.toArray)::m)):QF P ops C Q (⟨some d,.build T b,ty,pos,af,none⟩::rest) n m:=λa q=>by
 refine Dx q hd (λw _=>?_) k;have i:(b.map λ(p:Nat×Operand)=>(p.1,a.eval p.2)).toList=pv:=by
  obtain⟨l⟩:=b;simp only at c;simp only[List.map_toArray];clear o k
  induction l generalizing pv with
  |nil=>simp at c;subst c;rfl
  |cons x l t=>
   simp only[Ac3,Adk,Acf,iJ,Abn] at c;obtain⟨y,⟨v,u,rfl⟩,A,j,g⟩:=c;simp only[Option.pure_def,Abd] at g;subst g;simp only[Aaz,q.eval u,t j]
 have:=run_build (P:=P) w T (b.map λ(p:Nat×Operand)=>(p.1,a.eval p.2)) cs.toArray (by rw[i];exact eT s o);simp only[execOp,Sem.run_bind,this];rfl
def sQ {b o len sz:Nat}(u:BV m X=some (.pointer (some ⟨b,o,none⟩))) (v:BV m Y=some (.int kd i)) (c:yK P t len sz=true) (h0:0≤i) (x:i<len) (hd:Nat.blt d n.1=true)
  (k:QF P ops C Q rest n ((d,.pointer (some ⟨b,o+i.toNat*sz,none⟩))::m)):QF P ops C Q (⟨some d,.indexAddr t X Y,ty,pos,af,none⟩::rest) n m:=λa l=>by
 unfold yK at c;split at c
 ·rename_i z e y;simp only[Aaa] at c;obtain⟨p,g⟩:=c;have p:=Aah p;subst p;split at g
  ·rename_i s q;have g:=Aah g;subst g;have j:(⟨b,o,none⟩:Addr).add (i.toNat*s.size)=⟨b,o+i.toNat*s.size,none⟩:=by unfold Addr.add;split<;>simp_all
   exact Dx l hd (λw _=>by simp [execOp,l.eval u,l.eval v,Instr.indexAt,asIntOf,run_underlying y,Instr.sureAddr,h0,x,RU q,j]) k
  ·cases g
 ·cases c
def kK {B:Type}{T b o:Nat}{cs:List Value}{l:List B}{z:B}(f:B→Value) (p:CK C h) (q:St S L h) (s:BV m X=some (.pointer (some ⟨b,o+i.toNat*1,none⟩))) (u:Bx b T cs∈L) (v:(cs.drop o).take l.length=l.map f) (w:Go.Proofs.YtedgiljmffngoaaGreat.ix l i=some z) (x:Jj P t 1 false=true) (hd:Nat.blt d n.1=true)
  (k:QF P ops C Q rest n ((d,f z)::m)):QF P ops C Q (⟨some d,.load t X,ty,pos,af,none⟩::rest) n m:=by
 obtain⟨h0,g⟩:=Dy w;have y:(cs.drop (o+i.toNat*1)).take 1=[f z]:=by
  have j:((cs.drop o).take l.length)[i.toNat]? =some (f z):=by rw[v,Ab7,g];rfl
  have c:i.toNat<l.length:=(Aai.1 g).1;rw[Abr c,Acp] at j;rw[Abz];obtain⟨a,A⟩:=Aai.1 j;rw[Acz a,A];rfl
 exact N9 (vs:=[f z]) p q s u y rfl x rfl hd k
end
def Zs (h:AS) (T:TypeId) (cs:List Value) (v:Value) (a:AS):Prop:=∃b,v= .pointer (some ⟨b,0,none⟩)∧h.size≤b∧b<a.size∧a[b]? =some (.cells cs.toArray T (0,0))
def Zs.mono {h a c:AS}{T cs v}(k:Zs h T cs v a) (o:DT a c):Zs h T cs v c:=by
 obtain⟨b,e,g,d,i⟩:=k;exact⟨b,e,g,Aak d o.siz,(o.same b d).trans i⟩
def Zs.st {h g:AS}{T cs v}{S:Nat→Prop}{L:List HP}(k:Zs h T cs v g) (d:St S L h) (o:DT h g):∃b,v= .pointer (some ⟨b,0,none⟩)∧St S (Bx b T cs::L) g:=by
 obtain⟨b,e,m,i,j⟩:=k;refine⟨b,e,λc a=>Aak (d.1 c a) o.siz,λc=>c=b,⟨λ_=>Abx,j⟩,λc a=>by subst a;exact⟨i,λl=>absurd (d.1 c l) (by omega)⟩,?_⟩;refine Sp.ext d.2 (λ_ x=>x) (λc a=>o.same c (a.elim (d.1 c) (·.1))) λc a=>⟨⟨Aak a.1 o.siz,a.2⟩,λe=>by have:=a.1;omega⟩
def gB {P:Program}{ops:Array Oper}{Q:Exit→Act→World→Prop}{n:FN}{m:SM}{rest:List Oper}{d:Nat}{ty:TypeId}{pos:String}{af:Array Edge}{B:World}{h j:AS}{T:TypeId}{cs:List Value}(o:DT h j) (c:D1 P T=some cs) (hd:Nat.blt d n.1=true)
  (k:∀v h',DT j h'→Zs h T cs v h'→LF P ops Q rest B h' n ((d,v)::m)):LF P ops Q (⟨some d,.alloc T,ty,pos,af,none⟩::rest) B j n m:=by
 intro a w s q;refine wpList_plain rfl λK t=>?_;unfold Oper.wp;unfold D1 at c;simp only[Abn,Acf] at c;obtain⟨z,⟨i,u,c⟩,l⟩:=c;have x:z.cells=cs.toArray:=by rw[←l]
 have g:(execOp a.eval ⟨some d,.alloc T,ty,pos,af,none⟩).run P w= .ok (.value (.pointer (some ⟨w.heap.size,0,none⟩))) (w.alloc (.cells cs.toArray T)):=by
  simp [execOp,Instr.alloc,newVar,newRow,zeroValue,typeInfo,u,c,x]
 rw[g];have p:=q.heap;exact t _ _ (k _ _ ⟨by simp,λb y=>Gp _ _ _ y⟩ ⟨j.size,by rw[p],o.siz,by simp,Kn _ _⟩ _ _ (s.put hd _) (q.alloc _))
def Me (ops:Array Oper) (f:Nat):Bool:=(List.range ops.size).all λj=>j==f||(Region.waitsFor .any ops j f||(Region.waitsFor .any ops f j||match ops[f]?,ops[j]? with
 |some oi,some a=>oi.apart ops a
 |_,_=>false))
def PU (P:Program) (ops:Array Oper) (n:FN) (m:SM) (h0:AS) (R:AR) (i:Nat) (o:Oper) (ps:List (Nat×Nat)):Prop:=
 ∀mt h,DT h0 h→PA R h (λfr=>∀a,Fr n a (fr++(m++mt))→∃v,Yields P ops o v a∧R i v h) ps []
section
variable {P:Program}{ops:Array Oper}{Q:Exit→Act→World→Prop}{a:Act}{w:World}
end
def Rv (P:Program) (ops:Array Oper) (a:Nat) (n:FN) (m:SM) (h0:AS) (R:AR):List Nat→Prop
 |[]=>True
 |f::F=>(f<a∧Me ops f=true∧∃o d ps,ops[f]? =some o∧o.dst=some d∧TE ops o ps=true∧PU P ops n m h0 R f o ps)∧Rv P ops a n m h0 R F
def Rv.at_ {P:Program}{ops:Array Oper}{b:Nat}{n:FN}{m:SM}{h0:AS}{R:AR}:∀{F:List Nat},Rv P ops b n m h0 R F→∀f,f∈F→f<b∧Me ops f=true∧∃o d ps,ops[f]? =some o∧o.dst=some d∧TE ops o ps=true∧PU P ops n m h0 R f o ps
 |[],_,f,a=>by cases a
 |g::F,⟨c,i⟩,f,a=>by
  rcases Aae.1 a with rfl|a
  ·exact c
  ·exact Rv.at_ i f a
def Rv.cons {P:Program}{ops:Array Oper}{a:Nat}{n:FN}{m:SM}{h0:AS}{R:AR}{f d:Nat}{o:Oper}{F:List Nat}(ps:List (Nat×Nat)) (b:(Nat.blt f a&&Me ops f)=true) (g:ops[f]? =some o) (hd:o.dst=some d) (c:TE ops o ps=true) (i:PU P ops n m h0 R f o ps) (t:Rv P ops a n m h0 R F):Rv P ops a n m h0 R (f::F):=by
 simp only[Aaa] at b;exact⟨⟨(by simpa [Nat.blt] using b.1:f+1≤a),b.2,o,d,ps,g,hd,c,i⟩,t⟩
def Wn {P:Program}{ops:Array Oper}{n:FN}{m:SM}{d i:Nat}{ty:TypeId}{b:String}{c:Array Edge}{X:Operand}{xs:Array Value}{u:Value}{a:Act}(g:Fr n a m) (j:BV m X=some (.tuple xs)) (k:xs[i]? =some u):Yields P ops ⟨some d,.extract X i,ty,b,c,none⟩ u a:=
 .inl ⟨by simp [Region.wanted],λw=>by simp [execOp,g.eval j,Instr.extract,k]⟩
def NO {P:Program}{ops:Array Oper}{n:FN}{m:SM}{d:Nat}{ty:TypeId}{b:String}{c:Array Edge}{X:Operand}{u:Value}{a:Act}(g:Fr n a m) (i:BV m X=some u):Yields P ops ⟨some d,.move X,ty,b,c,none⟩ u a:=
 .inl ⟨by simp [Region.wanted],λw=>by simp [execOp,g.eval i]⟩
section
variable {P:Program}{ex:List (Nat×AP)}{RR N:AP}{cs:List Code}{B:World}{h:AS}{n:FN}{m m0:SM}{S:Nat→Prop}{L:List HP}
end
end Go.Proofs.YtedgiljmffngoaaGreat
