import Derived.Test.YtibidnaedddfdaaGreatCCore12
import Derived.MapKept
namespace Go.Proofs.YtibidnaedddfdaaGreat
open Go.RowKit
set_option linter.unusedVariables false
set_option linter.unusedSimpArgs false
theorem V4 {α}{p:α→Prop}:∀x∈([]:List α),p x:=λu h=>by cases h
theorem all_cons {α}{p:α→Prop}{x:α}{l:List α}(h:p x) (t:∀x∈l,p x):∀y∈x::l,p y:=λu hu=>by
 rcases List.mem_cons.1 hu with rfl|hu
 ·exact h
 ·exact t u hu
theorem ZA {α}{p:α→Prop}{l:List α}{i:Int}{z:α}(h:∀x∈l,p x) (hz:ix l i=some z):p z:=h _ (List.mem_of_getElem? (IE hz).2)
theorem Eo:∀u∈([]:List Value),u.oneCell'=true:=λu h=>by cases h
theorem AC {v:Value}{vs:List Value}(h:v.oneCell'=true) (t:∀u∈vs,u.oneCell'=true):∀u∈v::vs,u.oneCell'=true:=λu hu=>by
 rcases List.mem_cons.1 hu with rfl|hu
 ·exact h
 ·exact t u hu
theorem St.osone {α}{r:AV α}{T:Nat}{v:Value}{l:List α}{S:Nat→Prop}{L:List HP}{h:AX}(hs:St S L h) (hm:OS r T v l∈L):v.oneCell'=true:=(hs.oslAll hm).one
def I9:Value→Value→Bool
 | .agg a,.agg b=>N0 a.toList b.toList
 |a,b=>VE a b
def Mn {κ β}(kv:κ→Value) (m:List (κ×β)) (k:κ):Option β:=(m.find? λe=>I9 (kv k) (kv e.1)).map (·.2)
def Ow {κ β}(kv:κ→Value):List (κ×β)→κ→β→List (κ×β)
 |[],k,x=>[(k,x)]
 |(k',y)::r,k,x=>if I9 (kv k) (kv k') then (k,x)::r else (k',y)::Ow kv r k x
def O0 (p:Value→Bool):List MapEntry→Nat→Option (Nat×Value)
 |[],_=>none
 |e::es,i=>if p e.key then some (i,e.val) else O0 p es (i+1)
structure KQ {κ:Type}(P:Program) (T:TypeId) (kv:κ→Value):Prop where
 chk:∀k e w,(Instr.checkKey e 10000 T (kv k)).run P w= .ok () w
 find:∀k (es:List MapEntry) w,(∀e∈es,∃k',e.key=kv k')→(Instr.findKey T (kv k) es).run P w= .ok (O0 (I9 (kv k)) es 0) w
 same:∀k k',I9 (kv k) (kv k')=true→Instr.sameBits 10000 (kv k') (kv k)=true
theorem KA (kind:TypeDesc) (k:Value) (p:Value→Bool):∀(es:List MapEntry) (i:Nat),(∀e∈es,Instr.sameNow kind k e.key=some (p e.key))→Instr.findNow kind k es i=some (O0 p es i)
 |[],_,_=>rfl
 |e::es,i,h=>by
  have h1:=h e (by simp)
  have h2:=KA kind k p es (i+1) λe he=>h e (by simp [he])
  simp only[Instr.findNow,h1,O0]
  cases p e.key
  ·simpa using h2
  ·rfl
theorem KB {P:Program}(T:TypeId) (k:Value) (p:Value→Bool) (w:World):∀(es:List MapEntry) (i:Nat),(∀e∈es,(Op.equal T k e.key).run P w= .ok (p e.key) w)→(Instr.findAsking T k es i).run P w= .ok (O0 p es i) w
 |[],_,_=>rfl
 |e::es,i,h=>by
  have h1:=h e (by simp)
  have h2:=KB T k p w es (i+1) λe he=>h e (by simp [he])
  simp only[Instr.findAsking,Sem.run_bind,h1,Result.andThen_ok,O0]
  cases p e.key
  ·simpa using h2
  ·rfl
theorem PG {a b:ByteArray}:(a==b)=true↔a=b:=by
 obtain⟨a⟩:=a
 obtain⟨b⟩:=b
 rw[show ((⟨a⟩:ByteArray)==⟨b⟩)=(a==b) from rfl]
 simp
theorem KQ.str {P:Program}{T:TypeId}(hu:P.underlying T=some .string) (hc:∀(s:ByteArray) e w,(Instr.checkKey e 10000 T (.string s)).run P w= .ok () w):KQ P T Value.string where
 chk:=hc
 find:=λk es w h=>by
  have:Instr.findNow .string (.string k) es 0=some (O0 (I9 (.string k)) es 0):=KA _ _ _ es 0 λe he=>by obtain⟨k',e1⟩:=h e he;rw[e1];rfl
  simp [Instr.findKey,run_underlying hu,this]
 same:=λk k' h=>by
  have:k=k':=PG.1 (by simpa [I9,VE] using h)
  subst this
  simp [Instr.sameBits,PG.2]
theorem KQ.int {P:Program}{T:TypeId}{kd:IntKind}(hu:P.underlying T=some (.int kd)) (hc:∀(s:Int) e w,(Instr.checkKey e 10000 T (.int kd s)).run P w= .ok () w):KQ P T (Value.int kd) where
 chk:=hc
 find:=λk es w h=>by
  have:Instr.findNow (.int kd) (.int kd k) es 0=some (O0 (I9 (.int kd k)) es 0):=KA _ _ _ es 0 λe he=>by
   obtain⟨k',e1⟩:=h e he;rw[e1];simp [Instr.sameNow,I9,VE,M0]
  simp [Instr.findKey,run_underlying hu,this]
 same:=λk k' h=>by
  have:k=k':=by simpa [I9,VE] using h
  subst this
  simp [Instr.sameBits]
theorem KQ.agg {κ:Type}{P:Program}{T:TypeId}{f:κ→List Value}{ks:List Nat}{fs:Array _}(hu:P.underlying T=some (.struct fs)) (hl:XS P T=some ks) (h1:∀k,(f k).map qQ=ks) (h3:∀a b,Lf (f a) (f b)=true)
  (hc:∀k e w,(Instr.checkKey e 10000 T (.agg (f k).toArray)).run P w= .ok () w) (hb:∀a b,N0 (f a) (f b)=true→f a=f b) (hs:∀a,Instr.sameBits 10000 (.agg (f a).toArray) (.agg (f a).toArray)=true):KQ P T (λk=>Value.agg (f k).toArray) where
 chk:=hc
 find:=λk es w h=>by
  have hask:(Instr.findAsking T (.agg (f k).toArray) es).run P w= .ok (O0 (I9 (.agg (f k).toArray)) es 0) w:=KB T _ _ w es 0 λe he=>by
   obtain⟨k',e1⟩:=h e he
   rw[e1]
   have:=(Py (w:=w) hl (h1 k) (h1 k') (h3 k k')).1
   simpa [Op.equal,Op.maxDepth,I9] using this
  have hnow:Instr.findNow (.struct fs) (.agg (f k).toArray) es 0=some (O0 (I9 (.agg (f k).toArray)) es 0)∨Instr.findNow (.struct fs) (.agg (f k).toArray) es 0=none:=by
   cases es with
   |nil=>exact .inl rfl
   |cons e es=>exact .inr rfl
  rcases hnow with hn|hn
  ·simp [Instr.findKey,run_underlying hu,hn]
  ·simp [Instr.findKey,run_underlying hu,hn,hask]
 same:=λk k' h=>by
  have h':N0 (f k) (f k')=true:=by simpa [I9] using h
  have:=hb k k' h'
  simp only[this]
  exact hs k'
def KT (es:List MapEntry) (c:Nat):Prop:=(es.map (·.born)).Nodup∧∀x,x∈es→x.born<c
theorem KT.push {es:List MapEntry}{c:Nat}(k:KT es c) (e:MapEntry) (he:e.born=c):KT (es++[e]) (c+1):=by
 refine⟨?_,λx hx=>?_⟩
 ·rw[List.map_append,List.nodup_append]
  refine⟨k.1,by simp,λa ha b hb=>?_⟩
  simp only[List.map_cons,List.map_nil,List.mem_singleton] at hb
  obtain⟨y,hy,rfl⟩:=List.mem_map.1 ha
  have:=k.2 y hy
  omega
 ·rcases List.mem_append.1 hx with hx|hx
  ·have:=k.2 x hx;omega
  ·simp only[List.mem_singleton] at hx;subst hx;omega
theorem KT.of {es es':List MapEntry}{c:Nat}(k:KT es c) (h:es'.map (·.born)=es.map (·.born)):KT es' c:=by
 refine⟨by rw[h];exact k.1,λx hx=>?_⟩
 have:x.born∈es.map (·.born):=by rw[←h];exact List.mem_map.2 ⟨x,hx,rfl⟩
 obtain⟨y,hy,e⟩:=List.mem_map.1 this
 have:=k.2 y hy
 omega
theorem Pp (es:List MapEntry) (j:Nat) (f:MapEntry→MapEntry) (hf:∀e,(f e).born=e.born):(es.modify j f).map (·.born)=es.map (·.born):=by
 apply List.ext_getElem?
 intro i
 simp only[List.getElem?_map,List.getElem?_modify]
 by_cases e:j=i
 ·subst e;cases es[j]? <;>simp [hf]
 ·simp [e]
def MP {κ β:Type}(kv:κ→Value) (vv:β→Value) (b:Nat) (m:List (κ×β)):HP where
 holds:=λ_ F h=>(∀c,F c↔c=b)∧∃es clock,h[b]? =some (.map es clock)∧es.toList.map (λe=>(e.key,e.val))=(m.map λe=>(kv e.1,vv e.2))∧KT es.toList clock
 loc:=λ⟨k1,es,c,k2,k3⟩ _ e=>⟨k1,es,c,(e _ (.inr ((k1 _).2 rfl))).trans k2,k3⟩
theorem MP.flat {κ β}{kv:κ→Value}{vv:β→Value}{b m}:(MP kv vv b m).Flat:=λ{_ _ _ _} k=>k
section
variable {κ β:Type}{kv:κ→Value}{vv:β→Value}
theorem Ng:∀{es:List MapEntry}{m:List (κ×β)},es.map (λe=>(e.key,e.val))=m.map (λe=>(kv e.1,vv e.2))→∀e∈es,∃k',e.key=kv k'
 |[],_,_,_,he=>by cases he
 |x::es,[],h,_,_=>by simp at h
 |x::es,y::m,h,e,he=>by
  simp only[List.map_cons,List.cons.injEq,Prod.mk.injEq] at h
  rcases List.mem_cons.1 he with rfl|he
  ·exact⟨_,h.1.1⟩
  ·exact Ng h.2 e he
theorem Rm (k:κ):∀{es:List MapEntry}{m:List (κ×β)}(i:Nat),es.map (λe=>(e.key,e.val))=m.map (λe=>(kv e.1,vv e.2))→(O0 (I9 (kv k)) es i).map (·.2)=(Mn kv m k).map vv
 |[],[],_,_=>rfl
 |[],_::_,_,h=>by simp at h
 |x::es,[],_,h=>by simp at h
 |x::es,y::m,i,h=>by
  simp only[List.map_cons,List.cons.injEq,Prod.mk.injEq] at h
  have ih:=Rm k (i+1) h.2
  simp only[O0,h.1.1,Mn,List.find?_cons] at ih ⊢
  cases I9 (kv k) (kv y.1)
  ·simpa using ih
  ·simp [h.1.2]
theorem Pw (k:κ):∀{es:List MapEntry}{m:List (κ×β)}(i:Nat) (x:β),es.map (λe=>(e.key,e.val))=m.map (λe=>(kv e.1,vv e.2))→O0 (I9 (kv k)) es i=none→Ow kv m k x=m++[(k,x)]
 |[],[],_,_,_,_=>rfl
 |[],_::_,_,_,h,_=>by simp at h
 |x::es,[],_,_,h,_=>by simp at h
 |x::es,y::m,i,z,h,hn=>by
  simp only[List.map_cons,List.cons.injEq,Prod.mk.injEq] at h
  simp only[O0,h.1.1] at hn
  split at hn
  ·cases hn
  ·rename_i hq
   simp only[Ow,hq,Bool.false_eq_true,if_false,Pw k (i+1) z h.2 hn,List.cons_append]
theorem Pv (k:κ) (u:Value):∀{es:List MapEntry}{m:List (κ×β)}(i j:Nat) (v:Value) (x:β),es.map (λe=>(e.key,e.val))=m.map (λe=>(kv e.1,vv e.2))→O0 (I9 (kv k)) es i=some (j,v)→
  i≤j∧j-i<es.length∧(∃k',(es[j-i]?).map (·.key)=some (kv k')∧I9 (kv k) (kv k')=true)∧(es.modify (j-i) λe=>{ e with key:=kv k,val:=vv x}).map (λe=>(e.key,e.val))=(Ow kv m k x).map λe=>(kv e.1,vv e.2)
 |[],_,_,_,_,_,_,h=>by simp [O0] at h
 |x::es,[],_,_,_,_,h,_=>by simp at h
 |x::es,y::m,i,j,v,z,h,hn=>by
  simp only[List.map_cons,List.cons.injEq,Prod.mk.injEq] at h
  simp only[O0,h.1.1] at hn
  split at hn
  ·rename_i hq
   obtain⟨rfl,rfl⟩:i=j∧x.val=v:=by simpa using hn
   refine⟨Nat.le_refl _,by simp,⟨y.1,by simp [h.1.1],hq⟩,?_⟩
   simp [Ow,hq,h.2]
  ·rename_i hq
   obtain⟨h1,h2,⟨k',h3,h4⟩,h5⟩:=Pv k u (i+1) j v z h.2 hn
   have e:j-i=(j-(i+1))+1:=by omega
   refine⟨by omega,by rw[e];simpa using h2,⟨k',by rw[e];simpa using h3,h4⟩,?_⟩
   rw[e]
   simp only[List.modify_succ_cons,List.map_cons,Ow,hq,Bool.false_eq_true,if_false,h5,h.1.1,h.1.2]
end
section
variable {P:Program}{ops:Array Oper}{C:World→Prop}{Q:Act→Prop}{n:FN}{m m':SM}{rest:List Oper}
variable {d:Nat}{ty:TypeId}{pos:String}{af:Array Edge}{X Y Z:Operand}{t t1 t2:TypeId}{v p u:Value}{S:Nat→Prop}{L L2:List HP}{h:AX}{b:Nat}
variable {κ β:Type}{kv:κ→Value}{vv:β→Value}{l:List (κ×β)}{k0:κ}{z:β}{kt et:TypeId}
theorem Qk {w:World}{ok:Bool}(hT:P.underlying t=some (.map kt et)) (hK:KQ P kt kv) (hz:∀w,(zeroValue et).run P w= .ok (vv z) w) {es:Array MapEntry}{c:Nat}(hg:w.heap[b]? =some (.map es c)) (he:es.toList.map (λe=>(e.key,e.val))=l.map λe=>(kv e.1,vv e.2)):
  (Instr.lookup t (.map (some b)) (kv k0) ok).run P w= .ok (if ok then .tuple #[vv ((Mn kv l k0).getD z),.bool (Mn kv l k0).isSome] else vv ((Mn kv l k0).getD z)) w:=by
 have h1:=hK.find k0 es.toList w (Ng he)
 have h2:=Rm (kv:=kv) (vv:=vv) k0 0 he
 have h3:=hz w
 cases hf:O0 (I9 (kv k0)) es.toList 0 with
 |none=>
  rw[hf] at h1 h2
  have h4:Mn kv l k0=none:=by simpa using h2.symm
  simp [Instr.lookup,run_underlying hT,MapKept.run_getObj_map hg,hK.chk,h1,h3,h4]
 |some r=>
  rw[hf] at h1 h2
  obtain⟨y,h4,h5⟩:∃y,Mn kv l k0=some y∧vv y=r.2:=Option.map_eq_some_iff.1 (by simpa using h2.symm)
  obtain⟨r1,r2⟩:=r
  simp only at h5
  subst h5
  simp [Instr.lookup,run_underlying hT,MapKept.run_getObj_map hg,hK.chk,h1,h4]
theorem X8 {ok:Bool}(ck:CK C h) (hs:St S L h) (hm:MP kv vv b l∈L) (hx:BP m X=some (.map (some b))) (hy:BP m Y=some (kv k0)) (hT:P.underlying t=some (.map kt et)) (hK:KQ P kt kv) (hz:∀w,(zeroValue et).run P w= .ok (vv z) w) (hd:Nat.blt d n.1=true)
  (hu:(if ok then .tuple #[vv ((Mn kv l k0).getD z),.bool (Mn kv l k0).isSome] else vv ((Mn kv l k0).getD z))=u)
  (k:QF P ops C Q rest n ((d,u)::m)):QF P ops C Q (⟨some d,.lookup t X Y ok,ty,pos,af,none⟩::rest) n m:=λa hf=>by
 refine EW hf hd (λw hw=>?_) k
 obtain⟨F,⟨g1,es,c,g2,g3,_⟩,hFs⟩:=hs.get hm
 have hg:w.heap[b]? =some (.map es c):=(ck w hw b (hFs b ((g1 b).2 rfl)).1).trans g2
 simp [execOp,hf.eval hx,hf.eval hy,Qk hT hK hz hg g3,hu]
end
section
variable {P:Program}{ops:Array Oper}{Q:Exit→Act→World→Prop}{n:FN}{m:SM}{rest:List Oper}
variable {d:Nat}{ty:TypeId}{pos:String}{af:Array Edge}{X Y Z:Operand}{B w:World}{h:AX}{S:Nat→Prop}{L L2:List HP}{v:Value}{t kt et:TypeId}{b:Nat}
variable {κ β:Type}{kv:κ→Value}{vv:β→Value}{l:List (κ×β)}{k0:κ}{x:β}
theorem YE (hs:St S L h) (rp:IZ L (MP kv vv b l) (MP kv vv b (Ow kv l k0 x)) L2) (hx:BP m X=some (.map (some b))) (hy:BP m Y=some (kv k0)) (hz:BP m Z=some (vv x)) (hT:P.underlying t=some (.map kt et)) (hK:KQ P kt kv)
  (k:∀h',St S L2 h'→Bc S h S h'→LF P ops Q rest B h' n m):LF P ops Q (⟨none,.mapUpdate t X Y Z,ty,pos,af,none⟩::rest) B h n m:=by
 intro a w hf hw
 refine wpList_plain rfl λK hKK=>?_
 unfold Oper.wp
 obtain⟨M,p,_⟩:=rp.pick
 obtain⟨F,⟨g1,es,c,g2,g3,g4⟩,hF,_⟩:=Sp.pick p hs.2
 have hg:w.heap[b]? =some (.map es c):=by rw[hw.heap];exact g2
 have h1:=hK.find k0 es.toList w (Ng g3)
 have hset:∀(o:Obj) (h0:w.heap=h),(∀c',c'≠b→(w.heap.setIfInBounds b o)[c']? =h[c']?)∧(w.heap.setIfInBounds b o)[b]? =some o∧(w.heap.setIfInBounds b o).size=h.size:=λo h0=>by
  have hlt:b<w.heap.size:=(Array.getElem?_eq_some_iff.1 hg).1
  refine⟨λc' hc=>by rw[Array.getElem?_setIfInBounds_ne (Ne.symm hc),h0],?_,by simp [h0]⟩
  rw[Array.getElem?_setIfInBounds_self];simp [hlt]
 have fin:∀(es':Array MapEntry) (c':Nat),es'.toList.map (λe=>(e.key,e.val))=(Ow kv l k0 x).map (λe=>(kv e.1,vv e.2))→KT es'.toList c'→wpList P ops Q rest a { w with heap:=w.heap.setIfInBounds b (.map es' c')}:=λes' c' he hbo=>by
  obtain⟨s1,s2,s3⟩:=hset (.map es' c') hw.heap
  have hw':Wd B (w.heap.setIfInBounds b (.map es' c')) { w with heap:=w.heap.setIfInBounds b (.map es' c')}:=⟨rfl,hw.os,hw.tape,hw.out⟩
  obtain⟨u1,u2⟩:=hs.upd (h':=w.heap.setIfInBounds b (.map es' c')) rp (by omega) λF k1 k2=>⟨F,⟨k1.1,es',c',s2,he,hbo⟩,λc hc=> .inl hc,λc _ hc=>s1 c λe=>hc ((k1.1 c).2 e)⟩
  exact k _ u1 u2 a _ hf hw'
 cases hfd:O0 (I9 (kv k0)) es.toList 0 with
 |none=>
  rw[hfd] at h1
  have hrun:(execOp a.eval ⟨none,.mapUpdate t X Y Z,ty,pos,af,none⟩).run P w= .ok .skip { w with heap:=w.heap.setIfInBounds b (.map (es.push { key:=kv k0,val:=vv x,born:=c}) (c+1))}:=by
   simp [execOp,hf.eval hx,hf.eval hy,hf.eval hz,Instr.mapUpdate,run_underlying hT,MapKept.run_getObj_map hg,hK.chk,h1,MapKept.run_setObj_map _ hg]
  rw[hrun]
  refine hKK _ _ (fin _ _ ?_ (by rw[Array.toList_push];exact g4.push _ rfl))
  rw[Pw k0 0 x g3 hfd]
  simp [g3]
 |some r=>
  obtain⟨j,r2⟩:=r
  rw[hfd] at h1
  obtain⟨_,q2,⟨k',q3,q4⟩,q5⟩:=Pv k0 (vv x) 0 j r2 x g3 hfd
  have hkey:((es[j]?).map (·.key)).getD (kv k0)=kv k':=by
   have:(es[j]?).map (·.key)=some (kv k'):=by simpa using q3
   simp [this]
  have hstay:(Instr.keyThatStays (kv k') (kv k0)).run P w= .ok (kv k0) w:=by simp [Instr.keyThatStays,hK.same _ _ q4]
  have hrun:(execOp a.eval ⟨none,.mapUpdate t X Y Z,ty,pos,af,none⟩).run P w= .ok .skip { w with heap:=w.heap.setIfInBounds b (.map (es.modify j λe=>{ e with key:=kv k0,val:=vv x}) c)}:=by
   simp [execOp,hf.eval hx,hf.eval hy,hf.eval hz,Instr.mapUpdate,run_underlying hT,MapKept.run_getObj_map hg,hK.chk,h1,hkey,hstay,MapKept.run_setObj_map _ hg]
  rw[hrun]
  refine hKK _ _ (fin _ _ ?_ (by rw[Array.toList_modify];exact g4.of (Pp _ _ _ λ_=>rfl)))
  simpa using q5
theorem YF {K E:TypeId}(hd:Nat.blt d n.1=true) (hs:St S L h) (kv:κ→Value) (vv:β→Value)
  (k:∀b h',St S (MP kv vv b []::L) h'→Bc S h S h'→LF P ops Q rest B h' n ((d,.map (some b))::m)):LF P ops Q (⟨some d,.makeMap t none,ty,pos,af,none⟩::rest) B h n m:=by
 intro a w hf hw
 refine wpList_plain rfl λK hKK=>?_
 unfold Oper.wp
 have hrun:(execOp a.eval ⟨some d,.makeMap t none,ty,pos,af,none⟩).run P w= .ok (.value (.map (some w.heap.size))) (w.alloc (.map #[] 0)):=by
  first|rfl|(simp [execOp,Instr.makeMap,newObj,Sem.run])
 rw[hrun]
 obtain⟨g1,g2⟩:=hs.add (h':=h.push (.map #[] 0)) (H':=MP kv vv h.size []) (by simp) (λb hb=>ES _ _ _ hb) ⟨λb=>b=h.size,⟨λ_=>Iff.rfl,#[],0,HE _ _,rfl,List.nodup_nil,λx hx=>by cases hx⟩,λb hb=>by subst hb;simp⟩
 have hsz:=hw.heap
 exact hKK _ _ (k w.heap.size _ (by rw[hsz];exact g1) g2 _ _ (hf.put hd _) (hw.alloc _))
end
def Zw (P:Program) (T:TypeId):Option (List (Nat×Nat)×List Value):=
 match P.underlying T,Cs P T with
 |some (.array n e),some z=>(P.info? e).map λi=>((List.range n).map λk=>(k*i.size,i.size),z)
 |_,_=>none
def aK (P:Program) (t len sz:Nat):Bool:=
 match P.underlying t with
 |some (.array n e)=>Nat.beq n len&&(match P.info? e with|some i=>Nat.beq i.size sz|none=>false)
 |_=>false
theorem OP {p q:Nat→Option (Nat×Nat)}(h:∀i x,p i=some x→q i=some x):∀(pv:List (Nat×Value)) (cs cs':Array Value),Instr.fill p cs pv=some cs'→Instr.fill q cs pv=some cs'
 |[],_,_,e=>e
 |(i,v)::r,cs,cs',e=>by
  simp only[Instr.fill] at e ⊢
  cases hp:p i with
  |none=>rw[hp] at e;cases e
  |some x=>
   obtain⟨o,s⟩:=x
   rw[hp] at e
   rw[h i _ hp]
   simp only at e ⊢
   split at e
   ·cases e
   ·rename_i hh
    rw[if_neg hh]
    exact OP h r _ _ e
theorem Uu {P:Program}{T:TypeId}{pl z pv cs}(h:Zw P T=some (pl,z)) (hc:Io pl z pv=some cs):P.built T pv=some cs.toArray:=by
 unfold Zw at h
 split at h
 ·rename_i n e z' hu hz
  simp only[Option.map_eq_some_iff,Prod.mk.injEq] at h
  obtain⟨ie,hie,rfl,rfl⟩:=h
  unfold Cs at hz
  simp only[Option.map_eq_some_iff,Option.bind_eq_some_iff] at hz
  obtain⟨zv,⟨i,hi,hzv⟩,hcs⟩:=hz
  simp only[Program.built,hi,hu,hzv,hie]
  have h1:=JN _ pv z' cs hc
  rw[←hcs] at h1
  have h2:=OP (q:=λi=>some (i*ie.size,ie.size)) (λj x hj=>by
   rw[List.getElem?_toArray,List.getElem?_map] at hj
   obtain⟨k,hk,rfl⟩:=Option.map_eq_some_iff.1 hj
   obtain⟨_,rfl⟩:=List.getElem?_eq_some_iff.1 hk
   simp) pv _ _ h1
  simpa using h2
 ·cases h
section
variable {P:Program}{ops:Array Oper}{C:World→Prop}{Q:Act→Prop}{n:FN}{m m':SM}{rest:List Oper}
variable {d:Nat}{ty:TypeId}{pos:String}{af:Array Edge}{X Y Z:Operand}{t:TypeId}{S:Nat→Prop}{L:List HP}{h:AX}{i:Int}{kd:IntKind}
theorem WD {T:TypeId}{parts:Array (Nat×Operand)}{pl z pv cs}(hl:Zw P T=some (pl,z)) (hp:parts.toList.mapM (VW m)=some pv) (hc:Io pl z pv=some cs) (hd:Nat.blt d n.1=true) (k:QF P ops C Q rest n ((d,.agg cs.toArray)::m)):QF P ops C Q (⟨some d,.build T parts,ty,pos,af,none⟩::rest) n m:=λa hf=>by
 refine EW hf hd (λw _=>?_) k
 have hpv:(parts.map λ(p:Nat×Operand)=>(p.1,a.eval p.2)).toList=pv:=by
  obtain⟨l⟩:=parts
  simp only at hp
  simp only[List.map_toArray]
  clear hc k
  induction l generalizing pv with
  |nil=>simp at hp;subst hp;rfl
  |cons x l ih=>
   simp only[List.mapM_cons,Option.bind_eq_bind,Option.bind_eq_some_iff,VW,Option.map_eq_some_iff] at hp
   obtain⟨y,⟨v,hv,rfl⟩,ys,hys,hxy⟩:=hp
   simp only[Option.pure_def,Option.some.injEq] at hxy
   subst hxy
   simp only[List.map_cons,hf.eval hv,ih hys]
 have:=run_build (P:=P) w T (parts.map λ(p:Nat×Operand)=>(p.1,a.eval p.2)) cs.toArray (by rw[hpv];exact Uu hl hc)
 simp only[execOp,Sem.run_bind,this]
 rfl
theorem X9 {b o len sz:Nat}(hx:BP m X=some (.pointer (some ⟨b,o,none⟩))) (hy:BP m Y=some (.int kd i)) (ht:aK P t len sz=true) (h0:0≤i) (h1:i<len) (hd:Nat.blt d n.1=true)
  (k:QF P ops C Q rest n ((d,.pointer (some ⟨b,o+i.toNat*sz,none⟩))::m)):QF P ops C Q (⟨some d,.indexAddr t X Y,ty,pos,af,none⟩::rest) n m:=λa hf=>by
 unfold aK at ht
 split at ht
 ·rename_i n' e hu
  simp only[Bool.and_eq_true] at ht
  obtain⟨e1,e2⟩:=ht
  have e1:=Nat.eq_of_beq_eq_true e1
  subst e1
  split at e2
  ·rename_i ie hie
   have e2:=Nat.eq_of_beq_eq_true e2
   subst e2
   have hadd:(⟨b,o,none⟩:Addr).add (i.toNat*ie.size)=⟨b,o+i.toNat*ie.size,none⟩:=by unfold Addr.add;split<;>simp_all
   exact EW hf hd (λw _=>by simp [execOp,hf.eval hx,hf.eval hy,Instr.indexAt,asIntOf,run_underlying hu,Instr.sureAddr,h0,h1,MI hie,hadd]) k
  ·cases e2
 ·cases ht
theorem WA {α:Type}{T b o:Nat}{cs:List Value}{l:List α}{z:α}(f:α→Value) (ck:CK C h) (hs:St S L h) (hx:BP m X=some (.pointer (some ⟨b,o+i.toNat*1,none⟩))) (hm:Bx b T cs∈L) (hv:(cs.drop o).take l.length=l.map f) (hi:Go.Proofs.YtibidnaedddfdaaGreat.ix l i=some z) (ht:GI P t 1 false=true) (hd:Nat.blt d n.1=true)
  (k:QF P ops C Q rest n ((d,f z)::m)):QF P ops C Q (⟨some d,.load t X,ty,pos,af,none⟩::rest) n m:=by
 obtain⟨h0,h1⟩:=IE hi
 have h2:(cs.drop (o+i.toNat*1)).take 1=[f z]:=by
  have h3:((cs.drop o).take l.length)[i.toNat]? =some (f z):=by rw[hv,List.getElem?_map,h1];rfl
  have hlt:i.toNat<l.length:=(List.getElem?_eq_some_iff.1 h1).1
  rw[List.getElem?_take_of_lt hlt,List.getElem?_drop] at h3
  rw[Nat.mul_one]
  obtain⟨hlt2,h4⟩:=List.getElem?_eq_some_iff.1 h3
  rw[List.drop_eq_getElem_cons hlt2,h4]
  rfl
 exact QF.ldo (vs:=[f z]) ck hs hx hm h2 rfl ht rfl hd k
end
def Od (h:AX) (T:TypeId) (cs:List Value) (v:Value) (hh:AX):Prop:=∃b,v= .pointer (some ⟨b,0,none⟩)∧h.size≤b∧b<hh.size∧hh[b]? =some (.cells cs.toArray T (0,0))
theorem Od.mono {h h1 h2:AX}{T cs v}(k:Od h T cs v h1) (o:BX h1 h2):Od h T cs v h2:=by
 obtain⟨b,e,h3,h4,h5⟩:=k
 exact⟨b,e,h3,Nat.lt_of_lt_of_le h4 o.siz,(o.same b h4).trans h5⟩
theorem Od.st {h h2:AX}{T cs v}{S:Nat→Prop}{L:List HP}(k:Od h T cs v h2) (hs:St S L h) (o:BX h h2):∃b,v= .pointer (some ⟨b,0,none⟩)∧St S (Bx b T cs::L) h2:=by
 obtain⟨b,e,h3,h4,h5⟩:=k
 refine⟨b,e,λc hc=>Nat.lt_of_lt_of_le (hs.1 c hc) o.siz,λc=>c=b,⟨λ_=>Iff.rfl,h5⟩,λc hc=>by subst hc;exact⟨h4,λhb=>absurd (hs.1 c hb) (by omega)⟩,?_⟩
 refine Sp.ext hs.2 (λ_ x=>x) (λc hc=>o.same c (hc.elim (hs.1 c) (·.1))) λc hc=>⟨⟨Nat.lt_of_lt_of_le hc.1 o.siz,hc.2⟩,λe=>by have:=hc.1;omega⟩
theorem Nt {P:Program}{ops:Array Oper}{Q:Exit→Act→World→Prop}{n:FN}{m:SM}{rest:List Oper}{d:Nat}{ty:TypeId}{pos:String}{af:Array Edge}{B:World}{h hh:AX}{T:TypeId}{cs:List Value}(o:BX h hh) (hz:Cs P T=some cs) (hd:Nat.blt d n.1=true)
  (k:∀v h',BX hh h'→Od h T cs v h'→LF P ops Q rest B h' n ((d,v)::m)):LF P ops Q (⟨some d,.alloc T,ty,pos,af,none⟩::rest) B hh n m:=by
 intro a w hf hw
 refine wpList_plain rfl λK hK=>?_
 unfold Oper.wp
 unfold Cs at hz
 simp only[Option.map_eq_some_iff,Option.bind_eq_some_iff] at hz
 obtain⟨z,⟨i,hi,hz⟩,hcs⟩:=hz
 have hc:z.cells=cs.toArray:=by rw[←hcs]
 have hrun:(execOp a.eval ⟨some d,.alloc T,ty,pos,af,none⟩).run P w= .ok (.value (.pointer (some ⟨w.heap.size,0,none⟩))) (w.alloc (.cells cs.toArray T)):=by
  simp [execOp,Instr.alloc,newVar,newRow,zeroValue,typeInfo,hi,hz,hc]
 rw[hrun]
 have hsz:=hw.heap
 exact hK _ _ (k _ _ ⟨by simp,λb hb=>ES _ _ _ hb⟩ ⟨hh.size,by rw[hsz],o.siz,by simp,HE _ _⟩ _ _ (hf.put hd _) (hw.alloc _))
end Go.Proofs.YtibidnaedddfdaaGreat
