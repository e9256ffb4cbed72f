import Derived.Test.YtibidnaedddfdaaGreatACore12
import Derived.MapKept
namespace Go.Proofs.YtibidnaedddfdaaGreat
open Go.RowKit
set_option linter.unusedVariables false
set_option linter.unusedSimpArgs false
theorem Uu {α}{p:α→Prop}:∀x∈([]:List α),p x:=λu h=>by cases h
theorem all_cons {α}{p:α→Prop}{x:α}{l:List α}(h:p x) (t:∀x∈l,p x):∀y∈x::l,p y:=λu hu=>by
 rcases List.mem_cons.1 hu with rfl|hu
 ·exact h
 ·exact t u hu
theorem Xk {α}{p:α→Prop}{l:List α}{i:Int}{z:α}(h:∀x∈l,p x) (hz:ix l i=some z):p z:=h _ (List.mem_of_getElem? (IW hz).2)
theorem YP (b:Bool):b=false∨b=true:=by cases b<;>simp
theorem C6:∀u∈([]:List Value),u.oneCell'=true:=λu h=>by cases h
theorem AC {v:Value}{vs:List Value}(h:v.oneCell'=true) (t:∀u∈vs,u.oneCell'=true):∀u∈v::vs,u.oneCell'=true:=λu hu=>by
 rcases List.mem_cons.1 hu with rfl|hu
 ·exact h
 ·exact t u hu
theorem St.osone {α}{r:AW α}{T:Nat}{v:Value}{l:List α}{S:Nat→Prop}{L:List HP}{h:Ad}(hs:St S L h) (hm:OS r T v l∈L):v.oneCell'=true:=(hs.oslAll hm).one
def IK:Value→Value→Bool
 | .agg a,.agg b=>MX a.toList b.toList
 |a,b=>Ry a b
def HR {κ β}(kv:κ→Value) (m:List (κ×β)) (k:κ):Option β:=(m.find? λe=>IK (kv k) (kv e.1)).map (·.2)
def IH {κ β}(kv:κ→Value):List (κ×β)→κ→β→List (κ×β)
 |[],k,x=>[(k,x)]
 |(k',y)::r,k,x=>if IK (kv k) (kv k') then (k,x)::r else (k',y)::IH kv r k x
def Ot (p:Value→Bool):List MapEntry→Nat→Option (Nat×Value)
 |[],_=>none
 |e::es,i=>if p e.key then some (i,e.val) else Ot p es (i+1)
structure Jc {κ:Type}(P:Program) (T:TypeId) (kv:κ→Value):Prop where
 chk:∀k e w,(Instr.checkKey e 10000 T (kv k)).run P w= .ok () w
 find:∀k (es:List MapEntry) w,(∀e∈es,∃k',e.key=kv k')→(Instr.findKey T (kv k) es).run P w= .ok (Ot (IK (kv k)) es 0) w
 same:∀k k',IK (kv k) (kv k')=true→Instr.sameBits 10000 (kv k') (kv k)=true
theorem Kr (kind:TypeDesc) (k:Value) (p:Value→Bool):∀(es:List MapEntry) (i:Nat),(∀e∈es,Instr.sameNow kind k e.key=some (p e.key))→Instr.findNow kind k es i=some (Ot p es i)
 |[],_,_=>rfl
 |e::es,i,h=>by
  have h1:=h e (by simp)
  have h2:=Kr kind k p es (i+1) λe he=>h e (by simp [he])
  simp only[Instr.findNow,h1,Ot]
  cases p e.key
  ·simpa using h2
  ·rfl
theorem Ks {P:Program}(T:TypeId) (k:Value) (p:Value→Bool) (w:World):∀(es:List MapEntry) (i:Nat),(∀e∈es,(Op.equal T k e.key).run P w= .ok (p e.key) w)→(Instr.findAsking T k es i).run P w= .ok (Ot p es i) w
 |[],_,_=>rfl
 |e::es,i,h=>by
  have h1:=h e (by simp)
  have h2:=Ks T k p w es (i+1) λe he=>h e (by simp [he])
  simp only[Instr.findAsking,Sem.run_bind,h1,Result.andThen_ok,Ot]
  cases p e.key
  ·simpa using h2
  ·rfl
theorem Mq {a b:ByteArray}:(a==b)=true↔a=b:=by
 obtain⟨a⟩:=a
 obtain⟨b⟩:=b
 rw[show ((⟨a⟩:ByteArray)==⟨b⟩)=(a==b) from rfl]
 simp
theorem Jc.str {P:Program}{T:TypeId}(hu:P.underlying T=some .string) (hc:∀(s:ByteArray) e w,(Instr.checkKey e 10000 T (.string s)).run P w= .ok () w):Jc P T Value.string where
 chk:=hc
 find:=λk es w h=>by
  have:Instr.findNow .string (.string k) es 0=some (Ot (IK (.string k)) es 0):=Kr _ _ _ es 0 λe he=>by obtain⟨k',e1⟩:=h e he;rw[e1];rfl
  simp [Instr.findKey,run_underlying hu,this]
 same:=λk k' h=>by
  have:k=k':=Mq.1 (by simpa [IK,Ry] using h)
  subst this
  simp [Instr.sameBits,Mq.2]
theorem Jc.int {P:Program}{T:TypeId}{kd:IntKind}(hu:P.underlying T=some (.int kd)) (hc:∀(s:Int) e w,(Instr.checkKey e 10000 T (.int kd s)).run P w= .ok () w):Jc P T (Value.int kd) where
 chk:=hc
 find:=λk es w h=>by
  have:Instr.findNow (.int kd) (.int kd k) es 0=some (Ot (IK (.int kd k)) es 0):=Kr _ _ _ es 0 λe he=>by
   obtain⟨k',e1⟩:=h e he;rw[e1];simp [Instr.sameNow,IK,Ry,NI]
  simp [Instr.findKey,run_underlying hu,this]
 same:=λk k' h=>by
  have:k=k':=by simpa [IK,Ry] using h
  subst this
  simp [Instr.sameBits]
theorem Jc.agg {κ:Type}{P:Program}{T:TypeId}{f:κ→List Value}{ks:List Nat}{fs:Array _}(hu:P.underlying T=some (.struct fs)) (hl:VF P T=some ks) (h1:∀k,(f k).map Io=ks) (h3:∀a b,L5 (f a) (f b)=true)
  (hc:∀k e w,(Instr.checkKey e 10000 T (.agg (f k).toArray)).run P w= .ok () w) (hb:∀a b,MX (f a) (f b)=true→f a=f b) (hs:∀a,Instr.sameBits 10000 (.agg (f a).toArray) (.agg (f a).toArray)=true):Jc P T (λk=>Value.agg (f k).toArray) where
 chk:=hc
 find:=λk es w h=>by
  have hask:(Instr.findAsking T (.agg (f k).toArray) es).run P w= .ok (Ot (IK (.agg (f k).toArray)) es 0) w:=Ks T _ _ w es 0 λe he=>by
   obtain⟨k',e1⟩:=h e he
   rw[e1]
   have:=(Pp (w:=w) hl (h1 k) (h1 k') (h3 k k')).1
   simpa [Op.equal,Op.maxDepth,IK] using this
  have hnow:Instr.findNow (.struct fs) (.agg (f k).toArray) es 0=some (Ot (IK (.agg (f k).toArray)) es 0)∨Instr.findNow (.struct fs) (.agg (f k).toArray) es 0=none:=by
   cases es with
   |nil=>exact .inl rfl
   |cons e es=>exact .inr rfl
  rcases hnow with hn|hn
  ·simp [Instr.findKey,run_underlying hu,hn]
  ·simp [Instr.findKey,run_underlying hu,hn,hask]
 same:=λk k' h=>by
  have h':MX (f k) (f k')=true:=by simpa [IK] using h
  have:=hb k k' h'
  simp only[this]
  exact hs k'
def J3 (es:List MapEntry) (c:Nat):Prop:=(es.map (·.born)).Nodup∧∀x,x∈es→x.born<c
theorem J3.push {es:List MapEntry}{c:Nat}(k:J3 es c) (e:MapEntry) (he:e.born=c):J3 (es++[e]) (c+1):=by
 refine⟨?_,λx hx=>?_⟩
 ·rw[List.map_append,List.nodup_append]
  refine⟨k.1,by simp,λa ha b hb=>?_⟩
  simp only[List.map_cons,List.map_nil,List.mem_singleton] at hb
  obtain⟨y,hy,rfl⟩:=List.mem_map.1 ha
  have:=k.2 y hy
  omega
 ·rcases List.mem_append.1 hx with hx|hx
  ·have:=k.2 x hx;omega
  ·simp only[List.mem_singleton] at hx;subst hx;omega
theorem J3.of {es es':List MapEntry}{c:Nat}(k:J3 es c) (h:es'.map (·.born)=es.map (·.born)):J3 es' c:=by
 refine⟨by rw[h];exact k.1,λx hx=>?_⟩
 have:x.born∈es.map (·.born):=by rw[←h];exact List.mem_map.2 ⟨x,hx,rfl⟩
 obtain⟨y,hy,e⟩:=List.mem_map.1 this
 have:=k.2 y hy
 omega
theorem Pk (es:List MapEntry) (j:Nat) (f:MapEntry→MapEntry) (hf:∀e,(f e).born=e.born):(es.modify j f).map (·.born)=es.map (·.born):=by
 apply List.ext_getElem?
 intro i
 simp only[List.getElem?_map,List.getElem?_modify]
 by_cases e:j=i
 ·subst e;cases es[j]? <;>simp [hf]
 ·simp [e]
def MP {κ β:Type}(kv:κ→Value) (vv:β→Value) (b:Nat) (m:List (κ×β)):HP where
 holds:=λ_ F h=>(∀c,F c↔c=b)∧∃es clock,h[b]? =some (.map es clock)∧es.toList.map (λe=>(e.key,e.val))=(m.map λe=>(kv e.1,vv e.2))∧J3 es.toList clock
 loc:=λ⟨k1,es,c,k2,k3⟩ _ e=>⟨k1,es,c,(e _ (.inr ((k1 _).2 rfl))).trans k2,k3⟩
theorem MP.flat {κ β}{kv:κ→Value}{vv:β→Value}{b m}:(MP kv vv b m).Flat:=λ{_ _ _ _} k=>k
section
variable {κ β:Type}{kv:κ→Value}{vv:β→Value}
theorem Nl:∀{es:List MapEntry}{m:List (κ×β)},es.map (λe=>(e.key,e.val))=m.map (λe=>(kv e.1,vv e.2))→∀e∈es,∃k',e.key=kv k'
 |[],_,_,_,he=>by cases he
 |x::es,[],h,_,_=>by simp at h
 |x::es,y::m,h,e,he=>by
  simp only[List.map_cons,List.cons.injEq,Prod.mk.injEq] at h
  rcases List.mem_cons.1 he with rfl|he
  ·exact⟨_,h.1.1⟩
  ·exact Nl h.2 e he
theorem Q4 (k:κ):∀{es:List MapEntry}{m:List (κ×β)}(i:Nat),es.map (λe=>(e.key,e.val))=m.map (λe=>(kv e.1,vv e.2))→(Ot (IK (kv k)) es i).map (·.2)=(HR kv m k).map vv
 |[],[],_,_=>rfl
 |[],_::_,_,h=>by simp at h
 |x::es,[],_,h=>by simp at h
 |x::es,y::m,i,h=>by
  simp only[List.map_cons,List.cons.injEq,Prod.mk.injEq] at h
  have ih:=Q4 k (i+1) h.2
  simp only[Ot,h.1.1,HR,List.find?_cons] at ih ⊢
  cases IK (kv k) (kv y.1)
  ·simpa using ih
  ·simp [h.1.2]
theorem Po (k:κ):∀{es:List MapEntry}{m:List (κ×β)}(i:Nat) (x:β),es.map (λe=>(e.key,e.val))=m.map (λe=>(kv e.1,vv e.2))→Ot (IK (kv k)) es i=none→IH kv m k x=m++[(k,x)]
 |[],[],_,_,_,_=>rfl
 |[],_::_,_,_,h,_=>by simp at h
 |x::es,[],_,_,h,_=>by simp at h
 |x::es,y::m,i,z,h,hn=>by
  simp only[List.map_cons,List.cons.injEq,Prod.mk.injEq] at h
  simp only[Ot,h.1.1] at hn
  split at hn
  ·cases hn
  ·rename_i hq
   simp only[IH,hq,Bool.false_eq_true,if_false,Po k (i+1) z h.2 hn,List.cons_append]
theorem Pn (k:κ) (u:Value):∀{es:List MapEntry}{m:List (κ×β)}(i j:Nat) (v:Value) (x:β),es.map (λe=>(e.key,e.val))=m.map (λe=>(kv e.1,vv e.2))→Ot (IK (kv k)) es i=some (j,v)→
  i≤j∧j-i<es.length∧(∃k',(es[j-i]?).map (·.key)=some (kv k')∧IK (kv k) (kv k')=true)∧(es.modify (j-i) λe=>{ e with key:=kv k,val:=vv x}).map (λe=>(e.key,e.val))=(IH kv m k x).map λe=>(kv e.1,vv e.2)
 |[],_,_,_,_,_,_,h=>by simp [Ot] at h
 |x::es,[],_,_,_,_,h,_=>by simp at h
 |x::es,y::m,i,j,v,z,h,hn=>by
  simp only[List.map_cons,List.cons.injEq,Prod.mk.injEq] at h
  simp only[Ot,h.1.1] at hn
  split at hn
  ·rename_i hq
   obtain⟨rfl,rfl⟩:i=j∧x.val=v:=by simpa using hn
   refine⟨Nat.le_refl _,by simp,⟨y.1,by simp [h.1.1],hq⟩,?_⟩
   simp [IH,hq,h.2]
  ·rename_i hq
   obtain⟨h1,h2,⟨k',h3,h4⟩,h5⟩:=Pn k u (i+1) j v z h.2 hn
   have e:j-i=(j-(i+1))+1:=by omega
   refine⟨by omega,by rw[e];simpa using h2,⟨k',by rw[e];simpa using h3,h4⟩,?_⟩
   rw[e]
   simp only[List.modify_succ_cons,List.map_cons,IH,hq,Bool.false_eq_true,if_false,h5,h.1.1,h.1.2]
end
section
variable {P:Program}{ops:Array Oper}{C:World→Prop}{Q:Act→Prop}{n:FN}{m m':SM}{rest:List Oper}
variable {d:Nat}{ty:TypeId}{pos:String}{af:Array Edge}{X Y Z:Operand}{t t1 t2:TypeId}{v p u:Value}{S:Nat→Prop}{L L2:List HP}{h:Ad}{b:Nat}
variable {κ β:Type}{kv:κ→Value}{vv:β→Value}{l:List (κ×β)}{k0:κ}{z:β}{kt et:TypeId}
theorem QG {w:World}{ok:Bool}(hT:P.underlying t=some (.map kt et)) (hK:Jc P kt kv) (hz:∀w,(zeroValue et).run P w= .ok (vv z) w) {es:Array MapEntry}{c:Nat}(hg:w.heap[b]? =some (.map es c)) (he:es.toList.map (λe=>(e.key,e.val))=l.map λe=>(kv e.1,vv e.2)):
  (Instr.lookup t (.map (some b)) (kv k0) ok).run P w= .ok (if ok then .tuple #[vv ((HR kv l k0).getD z),.bool (HR kv l k0).isSome] else vv ((HR kv l k0).getD z)) w:=by
 have h1:=hK.find k0 es.toList w (Nl he)
 have h2:=Q4 (kv:=kv) (vv:=vv) k0 0 he
 have h3:=hz w
 cases hf:Ot (IK (kv k0)) es.toList 0 with
 |none=>
  rw[hf] at h1 h2
  have h4:HR kv l k0=none:=by simpa using h2.symm
  simp [Instr.lookup,run_underlying hT,MapKept.run_getObj_map hg,hK.chk,h1,h3,h4]
 |some r=>
  rw[hf] at h1 h2
  obtain⟨y,h4,h5⟩:∃y,HR kv l k0=some y∧vv y=r.2:=Option.map_eq_some_iff.1 (by simpa using h2.symm)
  obtain⟨r1,r2⟩:=r
  simp only at h5
  subst h5
  simp [Instr.lookup,run_underlying hT,MapKept.run_getObj_map hg,hK.chk,h1,h4]
theorem PD {ok:Bool}(ck:CK C h) (hs:St S L h) (hm:MP kv vv b l∈L) (hx:BG m X=some (.map (some b))) (hy:BG m Y=some (kv k0)) (hT:P.underlying t=some (.map kt et)) (hK:Jc P kt kv) (hz:∀w,(zeroValue et).run P w= .ok (vv z) w) (hd:Nat.blt d n.1=true)
  (hu:(if ok then .tuple #[vv ((HR kv l k0).getD z),.bool (HR kv l k0).isSome] else vv ((HR kv l k0).getD z))=u)
  (k:QF P ops C Q rest n ((d,u)::m)):QF P ops C Q (⟨some d,.lookup t X Y ok,ty,pos,af,none⟩::rest) n m:=λa hf=>by
 refine D2 hf hd (λw hw=>?_) k
 obtain⟨F,⟨g1,es,c,g2,g3,_⟩,hFs⟩:=hs.get hm
 have hg:w.heap[b]? =some (.map es c):=(ck w hw b (hFs b ((g1 b).2 rfl)).1).trans g2
 simp [execOp,hf.eval hx,hf.eval hy,QG hT hK hz hg g3,hu]
end
section
variable {P:Program}{ops:Array Oper}{Q:Exit→Act→World→Prop}{n:FN}{m:SM}{rest:List Oper}
variable {d:Nat}{ty:TypeId}{pos:String}{af:Array Edge}{X Y Z:Operand}{B w:World}{h:Ad}{S:Nat→Prop}{L L2:List HP}{v:Value}{t kt et:TypeId}{b:Nat}
variable {κ β:Type}{kv:κ→Value}{vv:β→Value}{l:List (κ×β)}{k0:κ}{x:β}
theorem Qb (hs:St S L h) (rp:I6 L (MP kv vv b l) (MP kv vv b (IH kv l k0 x)) L2) (hx:BG m X=some (.map (some b))) (hy:BG m Y=some (kv k0)) (hz:BG m Z=some (vv x)) (hT:P.underlying t=some (.map kt et)) (hK:Jc P kt kv)
  (k:∀h',St S L2 h'→BO S h S h'→LF P ops Q rest B h' n m):LF P ops Q (⟨none,.mapUpdate t X Y Z,ty,pos,af,none⟩::rest) B h n m:=by
 intro a w hf hw
 refine wpList_plain rfl λK hKK=>?_
 unfold Oper.wp
 obtain⟨M,p,_⟩:=rp.pick
 obtain⟨F,⟨g1,es,c,g2,g3,g4⟩,hF,_⟩:=Sp.pick p hs.2
 have hg:w.heap[b]? =some (.map es c):=by rw[hw.heap];exact g2
 have h1:=hK.find k0 es.toList w (Nl g3)
 have hset:∀(o:Obj) (h0:w.heap=h),(∀c',c'≠b→(w.heap.setIfInBounds b o)[c']? =h[c']?)∧(w.heap.setIfInBounds b o)[b]? =some o∧(w.heap.setIfInBounds b o).size=h.size:=λo h0=>by
  have hlt:b<w.heap.size:=(Array.getElem?_eq_some_iff.1 hg).1
  refine⟨λc' hc=>by rw[Array.getElem?_setIfInBounds_ne (Ne.symm hc),h0],?_,by simp [h0]⟩
  rw[Array.getElem?_setIfInBounds_self];simp [hlt]
 have fin:∀(es':Array MapEntry) (c':Nat),es'.toList.map (λe=>(e.key,e.val))=(IH kv l k0 x).map (λe=>(kv e.1,vv e.2))→J3 es'.toList c'→wpList P ops Q rest a { w with heap:=w.heap.setIfInBounds b (.map es' c')}:=λes' c' he hbo=>by
  obtain⟨s1,s2,s3⟩:=hset (.map es' c') hw.heap
  have hw':Wd B (w.heap.setIfInBounds b (.map es' c')) { w with heap:=w.heap.setIfInBounds b (.map es' c')}:=⟨rfl,hw.os,hw.tape,hw.out⟩
  obtain⟨u1,u2⟩:=hs.upd (h':=w.heap.setIfInBounds b (.map es' c')) rp (by omega) λF k1 k2=>⟨F,⟨k1.1,es',c',s2,he,hbo⟩,λc hc=> .inl hc,λc _ hc=>s1 c λe=>hc ((k1.1 c).2 e)⟩
  exact k _ u1 u2 a _ hf hw'
 cases hfd:Ot (IK (kv k0)) es.toList 0 with
 |none=>
  rw[hfd] at h1
  have hrun:(execOp a.eval ⟨none,.mapUpdate t X Y Z,ty,pos,af,none⟩).run P w= .ok .skip { w with heap:=w.heap.setIfInBounds b (.map (es.push { key:=kv k0,val:=vv x,born:=c}) (c+1))}:=by
   simp [execOp,hf.eval hx,hf.eval hy,hf.eval hz,Instr.mapUpdate,run_underlying hT,MapKept.run_getObj_map hg,hK.chk,h1,MapKept.run_setObj_map _ hg]
  rw[hrun]
  refine hKK _ _ (fin _ _ ?_ (by rw[Array.toList_push];exact g4.push _ rfl))
  rw[Po k0 0 x g3 hfd]
  simp [g3]
 |some r=>
  obtain⟨j,r2⟩:=r
  rw[hfd] at h1
  obtain⟨_,q2,⟨k',q3,q4⟩,q5⟩:=Pn k0 (vv x) 0 j r2 x g3 hfd
  have hkey:((es[j]?).map (·.key)).getD (kv k0)=kv k':=by
   have:(es[j]?).map (·.key)=some (kv k'):=by simpa using q3
   simp [this]
  have hstay:(Instr.keyThatStays (kv k') (kv k0)).run P w= .ok (kv k0) w:=by simp [Instr.keyThatStays,hK.same _ _ q4]
  have hrun:(execOp a.eval ⟨none,.mapUpdate t X Y Z,ty,pos,af,none⟩).run P w= .ok .skip { w with heap:=w.heap.setIfInBounds b (.map (es.modify j λe=>{ e with key:=kv k0,val:=vv x}) c)}:=by
   simp [execOp,hf.eval hx,hf.eval hy,hf.eval hz,Instr.mapUpdate,run_underlying hT,MapKept.run_getObj_map hg,hK.chk,h1,hkey,hstay,MapKept.run_setObj_map _ hg]
  rw[hrun]
  refine hKK _ _ (fin _ _ ?_ (by rw[Array.toList_modify];exact g4.of (Pk _ _ _ λ_=>rfl)))
  simpa using q5
theorem Qc {K E:TypeId}(hd:Nat.blt d n.1=true) (hs:St S L h) (kv:κ→Value) (vv:β→Value)
  (k:∀b h',St S (MP kv vv b []::L) h'→BO S h S h'→LF P ops Q rest B h' n ((d,.map (some b))::m)):LF P ops Q (⟨some d,.makeMap t none,ty,pos,af,none⟩::rest) B h n m:=by
 intro a w hf hw
 refine wpList_plain rfl λK hKK=>?_
 unfold Oper.wp
 have hrun:(execOp a.eval ⟨some d,.makeMap t none,ty,pos,af,none⟩).run P w= .ok (.value (.map (some w.heap.size))) (w.alloc (.map #[] 0)):=by
  first|rfl|(simp [execOp,Instr.makeMap,newObj,Sem.run])
 rw[hrun]
 obtain⟨g1,g2⟩:=hs.add (h':=h.push (.map #[] 0)) (H':=MP kv vv h.size []) (by simp) (λb hb=>DO _ _ _ hb) ⟨λb=>b=h.size,⟨λ_=>Iff.rfl,#[],0,G8 _ _,rfl,List.nodup_nil,λx hx=>by cases hx⟩,λb hb=>by subst hb;simp⟩
 have hsz:=hw.heap
 exact hKK _ _ (k w.heap.size _ (by rw[hsz];exact g1) g2 _ _ (hf.put hd _) (hw.alloc _))
end
def YU (P:Program) (T:TypeId):Option (List (Nat×Nat)×List Value):=
 match P.underlying T,CY P T with
 |some (.array n e),some z=>(P.info? e).map λi=>((List.range n).map λk=>(k*i.size,i.size),z)
 |_,_=>none
def Yp (P:Program) (t len sz:Nat):Bool:=
 match P.underlying t with
 |some (.array n e)=>Nat.beq n len&&(match P.info? e with|some i=>Nat.beq i.size sz|none=>false)
 |_=>false
theorem OO {p q:Nat→Option (Nat×Nat)}(h:∀i x,p i=some x→q i=some x):∀(pv:List (Nat×Value)) (cs cs':Array Value),Instr.fill p cs pv=some cs'→Instr.fill q cs pv=some cs'
 |[],_,_,e=>e
 |(i,v)::r,cs,cs',e=>by
  simp only[Instr.fill] at e ⊢
  cases hp:p i with
  |none=>rw[hp] at e;cases e
  |some x=>
   obtain⟨o,s⟩:=x
   rw[hp] at e
   rw[h i _ hp]
   simp only at e ⊢
   split at e
   ·cases e
   ·rename_i hh
    rw[if_neg hh]
    exact OO h r _ _ e
theorem T3 {P:Program}{T:TypeId}{pl z pv cs}(h:YU P T=some (pl,z)) (hc:I9 pl z pv=some cs):P.built T pv=some cs.toArray:=by
 unfold YU at h
 split at h
 ·rename_i n e z' hu hz
  simp only[Option.map_eq_some_iff,Prod.mk.injEq] at h
  obtain⟨ie,hie,rfl,rfl⟩:=h
  unfold CY at hz
  simp only[Option.map_eq_some_iff,Option.bind_eq_some_iff] at hz
  obtain⟨zv,⟨i,hi,hzv⟩,hcs⟩:=hz
  simp only[Program.built,hi,hu,hzv,hie]
  have h1:=Jk _ pv z' cs hc
  rw[←hcs] at h1
  have h2:=OO (q:=λi=>some (i*ie.size,ie.size)) (λj x hj=>by
   rw[List.getElem?_toArray,List.getElem?_map] at hj
   obtain⟨k,hk,rfl⟩:=Option.map_eq_some_iff.1 hj
   obtain⟨_,rfl⟩:=List.getElem?_eq_some_iff.1 hk
   simp) pv _ _ h1
  simpa using h2
 ·cases h
section
variable {P:Program}{ops:Array Oper}{C:World→Prop}{Q:Act→Prop}{n:FN}{m m':SM}{rest:List Oper}
variable {d:Nat}{ty:TypeId}{pos:String}{af:Array Edge}{X Y Z:Operand}{t:TypeId}{S:Nat→Prop}{L:List HP}{h:Ad}{i:Int}{kd:IntKind}
theorem U0 {T:TypeId}{parts:Array (Nat×Operand)}{pl z pv cs}(hl:YU P T=some (pl,z)) (hp:parts.toList.mapM (UW m)=some pv) (hc:I9 pl z pv=some cs) (hd:Nat.blt d n.1=true) (k:QF P ops C Q rest n ((d,.agg cs.toArray)::m)):QF P ops C Q (⟨some d,.build T parts,ty,pos,af,none⟩::rest) n m:=λa hf=>by
 refine D2 hf hd (λw _=>?_) k
 have hpv:(parts.map λ(p:Nat×Operand)=>(p.1,a.eval p.2)).toList=pv:=by
  obtain⟨l⟩:=parts
  simp only at hp
  simp only[List.map_toArray]
  clear hc k
  induction l generalizing pv with
  |nil=>simp at hp;subst hp;rfl
  |cons x l ih=>
   simp only[List.mapM_cons,Option.bind_eq_bind,Option.bind_eq_some_iff,UW,Option.map_eq_some_iff] at hp
   obtain⟨y,⟨v,hv,rfl⟩,ys,hys,hxy⟩:=hp
   simp only[Option.pure_def,Option.some.injEq] at hxy
   subst hxy
   simp only[List.map_cons,hf.eval hv,ih hys]
 have:=run_build (P:=P) w T (parts.map λ(p:Nat×Operand)=>(p.1,a.eval p.2)) cs.toArray (by rw[hpv];exact T3 hl hc)
 simp only[execOp,Sem.run_bind,this]
 rfl
theorem Wk {b o len sz:Nat}(hx:BG m X=some (.pointer (some ⟨b,o,none⟩))) (hy:BG m Y=some (.int kd i)) (ht:Yp P t len sz=true) (h0:0≤i) (h1:i<len) (hd:Nat.blt d n.1=true)
  (k:QF P ops C Q rest n ((d,.pointer (some ⟨b,o+i.toNat*sz,none⟩))::m)):QF P ops C Q (⟨some d,.indexAddr t X Y,ty,pos,af,none⟩::rest) n m:=λa hf=>by
 unfold Yp at ht
 split at ht
 ·rename_i n' e hu
  simp only[Bool.and_eq_true] at ht
  obtain⟨e1,e2⟩:=ht
  have e1:=Nat.eq_of_beq_eq_true e1
  subst e1
  split at e2
  ·rename_i ie hie
   have e2:=Nat.eq_of_beq_eq_true e2
   subst e2
   have hadd:(⟨b,o,none⟩:Addr).add (i.toNat*ie.size)=⟨b,o+i.toNat*ie.size,none⟩:=by unfold Addr.add;split<;>simp_all
   exact D2 hf hd (λw _=>by simp [execOp,hf.eval hx,hf.eval hy,Instr.indexAt,asIntOf,run_underlying hu,Instr.sureAddr,h0,h1,Me hie,hadd]) k
  ·cases e2
 ·cases ht
theorem Ux {α:Type}{T b o:Nat}{cs:List Value}{l:List α}{z:α}(f:α→Value) (ck:CK C h) (hs:St S L h) (hx:BG m X=some (.pointer (some ⟨b,o+i.toNat*1,none⟩))) (hm:Bx b T cs∈L) (hv:(cs.drop o).take l.length=l.map f) (hi:Go.Proofs.YtibidnaedddfdaaGreat.ix l i=some z) (ht:GP P t 1 false=true) (hd:Nat.blt d n.1=true)
  (k:QF P ops C Q rest n ((d,f z)::m)):QF P ops C Q (⟨some d,.load t X,ty,pos,af,none⟩::rest) n m:=by
 obtain⟨h0,h1⟩:=IW hi
 have h2:(cs.drop (o+i.toNat*1)).take 1=[f z]:=by
  have h3:((cs.drop o).take l.length)[i.toNat]? =some (f z):=by rw[hv,List.getElem?_map,h1];rfl
  have hlt:i.toNat<l.length:=(List.getElem?_eq_some_iff.1 h1).1
  rw[List.getElem?_take_of_lt hlt,List.getElem?_drop] at h3
  rw[Nat.mul_one]
  obtain⟨hlt2,h4⟩:=List.getElem?_eq_some_iff.1 h3
  rw[List.drop_eq_getElem_cons hlt2,h4]
  rfl
 exact QF.ldo (vs:=[f z]) ck hs hx hm h2 rfl ht rfl hd k
end
def PM (h:Ad) (T:TypeId) (cs:List Value) (v:Value) (hh:Ad):Prop:=∃b,v= .pointer (some ⟨b,0,none⟩)∧h.size≤b∧b<hh.size∧hh[b]? =some (.cells cs.toArray T (0,0))
theorem PM.mono {h h1 h2:Ad}{T cs v}(k:PM h T cs v h1) (o:Ap h1 h2):PM h T cs v h2:=by
 obtain⟨b,e,h3,h4,h5⟩:=k
 exact⟨b,e,h3,Nat.lt_of_lt_of_le h4 o.siz,(o.same b h4).trans h5⟩
theorem PM.st {h h2:Ad}{T cs v}{S:Nat→Prop}{L:List HP}(k:PM h T cs v h2) (hs:St S L h) (o:Ap h h2):∃b,v= .pointer (some ⟨b,0,none⟩)∧St S (Bx b T cs::L) h2:=by
 obtain⟨b,e,h3,h4,h5⟩:=k
 refine⟨b,e,λc hc=>Nat.lt_of_lt_of_le (hs.1 c hc) o.siz,λc=>c=b,⟨λ_=>Iff.rfl,h5⟩,λc hc=>by subst hc;exact⟨h4,λhb=>absurd (hs.1 c hb) (by omega)⟩,?_⟩
 refine Sp.ext hs.2 (λ_ x=>x) (λc hc=>o.same c (hc.elim (hs.1 c) (·.1))) λc hc=>⟨⟨Nat.lt_of_lt_of_le hc.1 o.siz,hc.2⟩,λe=>by have:=hc.1;omega⟩
theorem PH {P:Program}{ops:Array Oper}{Q:Exit→Act→World→Prop}{n:FN}{m:SM}{rest:List Oper}{d:Nat}{ty:TypeId}{pos:String}{af:Array Edge}{B:World}{h hh:Ad}{T:TypeId}{cs:List Value}(o:Ap h hh) (hz:CY P T=some cs) (hd:Nat.blt d n.1=true)
  (k:∀v h',Ap hh h'→PM h T cs v h'→LF P ops Q rest B h' n ((d,v)::m)):LF P ops Q (⟨some d,.alloc T,ty,pos,af,none⟩::rest) B hh n m:=by
 intro a w hf hw
 refine wpList_plain rfl λK hK=>?_
 unfold Oper.wp
 unfold CY at hz
 simp only[Option.map_eq_some_iff,Option.bind_eq_some_iff] at hz
 obtain⟨z,⟨i,hi,hz⟩,hcs⟩:=hz
 have hc:z.cells=cs.toArray:=by rw[←hcs]
 have hrun:(execOp a.eval ⟨some d,.alloc T,ty,pos,af,none⟩).run P w= .ok (.value (.pointer (some ⟨w.heap.size,0,none⟩))) (w.alloc (.cells cs.toArray T)):=by
  simp [execOp,Instr.alloc,newVar,newRow,zeroValue,typeInfo,hi,hz,hc]
 rw[hrun]
 have hsz:=hw.heap
 exact hK _ _ (k _ _ ⟨by simp,λb hb=>DO _ _ _ hb⟩ ⟨hh.size,by rw[hsz],o.siz,by simp,G8 _ _⟩ _ _ (hf.put hd _) (hw.alloc _))
end Go.Proofs.YtibidnaedddfdaaGreat
