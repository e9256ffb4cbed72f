import Derived.Test.YtedgiljmffngoaaGreatFCore12
import Derived.MapKept
namespace Go.Proofs.YtedgiljmffngoaaGreat
set_option linter.all false
open Go.RowKit
def XA {α}{p:α→Prop}:∀x∈([]:List α),p x:=λu h=>by cases h
def all_cons {α}{p:α→Prop}{x:α}{l:List α}(h:p x) (t:∀x∈l,p x):∀y∈x::l,p y:=λu a=>by
 rcases gK.1 a with rfl|a
 ·exact h
 ·exact t u a
def cM {α}{p:α→Prop}{l:List α}{i:Int}{z:α}(h:∀x∈l,p x) (a:ix l i=some z):p z:=h _ (List.mem_of_getElem? (Gj a).2)
def Wn (b:Bool):b=false∨b=true:=by cases b<;>simp
def HB:∀u∈([]:List Value),u.oneCell'=true:=λu h=>by cases h
def A4 {v:Value}{vs:List Value}(h:v.oneCell'=true) (t:∀u∈vs,u.oneCell'=true):∀u∈v::vs,u.oneCell'=true:=λu a=>by
 rcases gK.1 a with rfl|a
 ·exact h
 ·exact t u a
def St.osone {α}{r:BB α}{T:Nat}{v:Value}{l:List α}{S:Nat→Prop}{L:List HP}{h:AT}(a:St S L h) (b:OS r T v l∈L):v.oneCell'=true:=(a.oslAll b).one
def MN:Value→Value→Bool
 | .agg a,.agg b=>Uz a.toList b.toList
 |a,b=>Wm a b
def ML {κ β}(kv:κ→Value) (m:List (κ×β)) (k:κ):Option β:=(m.find? λe=>MN (kv k) (kv e.1)).map (·.2)
def PM {κ β}(kv:κ→Value):List (κ×β)→κ→β→List (κ×β)
 |[],k,x=>[(k,x)]
 |(a,y)::r,k,x=>if MN (kv k) (kv a) then (k,x)::r else (a,y)::PM kv r k x
def R0 (p:Value→Bool):List MapEntry→Nat→Option (Nat×Value)
 |[],_=>none
 |e::a,i=>if p e.key then some (i,e.val) else R0 p a (i+1)
structure MV {κ:Type}(P:Program) (T:TypeId) (kv:κ→Value):Prop where
 chk:∀k e w,(Instr.checkKey e 10000 T (kv k)).run P w= .ok () w
 find:∀k (es:List MapEntry) w,(∀e∈es,∃k',e.key=kv k')→(Instr.findKey T (kv k) es).run P w= .ok (R0 (MN (kv k)) es 0) w
 same:∀k k',MN (kv k) (kv k')=true→Instr.sameBits 10000 (kv k') (kv k)=true
def NN (a:TypeDesc) (k:Value) (p:Value→Bool):∀(b:List MapEntry) (i:Nat),(∀e∈b,Instr.sameNow a k e.key=some (p e.key))→Instr.findNow a k b i=some (R0 p b i)
 |[],_,_=>rfl
 |e::b,i,h=>by
  have c:=h e (by simp);have d:=NN a k p b (i+1) λe g=>h e (by simp [g]);simp only[Instr.findNow,c,R0];cases p e.key
  ·simpa using d
  ·rfl
def NO {P:Program}(T:TypeId) (k:Value) (p:Value→Bool) (w:World):∀(a:List MapEntry) (i:Nat),(∀e∈a,(Op.equal T k e.key).run P w= .ok (p e.key) w)→(Instr.findAsking T k a i).run P w= .ok (R0 p a i) w
 |[],_,_=>rfl
 |e::a,i,h=>by
  have b:=h e (by simp);have c:=NO T k p w a (i+1) λe d=>h e (by simp [d]);simp only[Instr.findAsking,Sem.run_bind,b,Result.andThen_ok,R0];cases p e.key
  ·simpa using c
  ·rfl
def PY {a b:ByteArray}:(a==b)=true↔a=b:=by
 obtain⟨a⟩:=a;obtain⟨b⟩:=b;rw[show ((⟨a⟩:ByteArray)==⟨b⟩)=(a==b) from rfl];simp
def MV.str {P:Program}{T:TypeId}(c:P.underlying T=some .string) (d:∀(s:ByteArray) e w,(Instr.checkKey e 10000 T (.string s)).run P w= .ok () w):MV P T Value.string where
 chk:=d
 find:=λk a w h=>by
  have:Instr.findNow .string (.string k) a 0=some (R0 (MN (.string k)) a 0):=NN _ _ _ a 0 λe g=>by obtain⟨b,i⟩:=h e g;rw[i];rfl
  simp [Instr.findKey,run_underlying c,this]
 same:=λk b h=>by
  have:k=b:=PY.1 (by simpa [MN,Wm] using h);subst this;simp [Instr.sameBits,PY.2]
def MV.int {P:Program}{T:TypeId}{kd:IntKind}(c:P.underlying T=some (.int kd)) (d:∀(s:Int) e w,(Instr.checkKey e 10000 T (.int kd s)).run P w= .ok () w):MV P T (Value.int kd) where
 chk:=d
 find:=λk a w h=>by
  have:Instr.findNow (.int kd) (.int kd k) a 0=some (R0 (MN (.int kd k)) a 0):=NN _ _ _ a 0 λe g=>by
   obtain⟨b,i⟩:=h e g;rw[i];simp [Instr.sameNow,MN,Wm,P5]
  simp [Instr.findKey,run_underlying c,this]
 same:=λk b h=>by
  have:k=b:=by simpa [MN,Wm] using h
  subst this;simp [Instr.sameBits]
def MV.agg {κ:Type}{P:Program}{T:TypeId}{f:κ→List Value}{m:List Nat}{j:Array _}(n:P.underlying T=some (.struct j)) (p:W6 P T=some m) (o:∀k,(f k).map LN=m) (q:∀a b,Ow (f a) (f b)=true)
  (s:∀k e w,(Instr.checkKey e 10000 T (.agg (f k).toArray)).run P w= .ok () w) (t:∀a b,Uz (f a) (f b)=true→f a=f b) (u:∀a,Instr.sameBits 10000 (.agg (f a).toArray) (.agg (f a).toArray)=true):MV P T (λk=>Value.agg (f k).toArray) where
 chk:=s
 find:=λk c w h=>by
  have g:(Instr.findAsking T (.agg (f k).toArray) c).run P w= .ok (R0 (MN (.agg (f k).toArray)) c 0) w:=NO T _ _ w c 0 λe v=>by
   obtain⟨d,x⟩:=h e v;rw[x];have:=(Sy (w:=w) p (o k) (o d) (q k d)).1;simpa [Op.equal,Op.maxDepth,MN] using this
  have i:Instr.findNow (.struct j) (.agg (f k).toArray) c 0=some (R0 (MN (.agg (f k).toArray)) c 0)∨Instr.findNow (.struct j) (.agg (f k).toArray) c 0=none:=by
   cases c with
   |nil=>exact .inl rfl
   |cons e c=>exact .inr rfl
  rcases i with l|l
  ·simp [Instr.findKey,run_underlying n,l]
  ·simp [Instr.findKey,run_underlying n,l,g]
 same:=λk d h=>by
  have h':Uz (f k) (f d)=true:=by simpa [MN] using h
  have:=t k d h';simp only[this];exact u d
def Mu (a:List MapEntry) (c:Nat):Prop:=(a.map (·.born)).Nodup∧∀x,x∈a→x.born<c
def Mu.push {g:List MapEntry}{c:Nat}(k:Mu g c) (e:MapEntry) (m:e.born=c):Mu (g++[e]) (c+1):=by
 refine⟨?_,λx d=>?_⟩
 ·rw[jM,List.nodup_append];refine⟨k.1,by simp,λa i b j=>?_⟩;simp only[iF,List.map_nil,kG] at j;obtain⟨y,l,rfl⟩:=iJ.1 i;have:=k.2 y l;omega
 ·rcases jI.1 d with d|d
  ·have:=k.2 x d;omega
  ·simp only[kG] at d;subst d;omega
def Mu.of {b a:List MapEntry}{c:Nat}(k:Mu b c) (h:a.map (·.born)=b.map (·.born)):Mu a c:=by
 refine⟨by rw[h];exact k.1,λx d=>?_⟩;have:x.born∈b.map (·.born):=by rw[←h];exact iJ.2 ⟨x,d,rfl⟩
 obtain⟨y,g,e⟩:=iJ.1 this;have:=k.2 y g;omega
def Su (a:List MapEntry) (j:Nat) (f:MapEntry→MapEntry) (b:∀e,(f e).born=e.born):(a.modify j f).map (·.born)=a.map (·.born):=by
 apply List.ext_getElem?;intro i;simp only[List.getElem?_map,List.getElem?_modify];by_cases e:j=i
 ·subst e;cases a[j]? <;>simp [b]
 ·simp [e]
def MP {κ β:Type}(kv:κ→Value) (vv:β→Value) (b:Nat) (m:List (κ×β)):HP where
 holds:=λ_ F h=>(∀c,F c↔c=b)∧∃d a,h[b]? =some (.map d a)∧d.toList.map (λe=>(e.key,e.val))=(m.map λe=>(kv e.1,vv e.2))∧Mu d.toList a
 loc:=λ⟨g,d,c,i,j⟩ _ e=>⟨g,d,c,(e _ (.inr ((g _).2 rfl))).trans i,j⟩
def MP.flat {κ β}{kv:κ→Value}{vv:β→Value}{b m}:(MP kv vv b m).Flat:=λ{_ _ _ _} k=>k
section
variable {κ β:Type}{kv:κ→Value}{vv:β→Value}
def QV:∀{b:List MapEntry}{m:List (κ×β)},b.map (λe=>(e.key,e.val))=m.map (λe=>(kv e.1,vv e.2))→∀e∈b,∃c,e.key=kv c
 |[],_,_,_,a=>by cases a
 |x::b,[],h,_,_=>by simp at h
 |x::b,y::m,h,e,a=>by
  simp only[iF,List.cons.injEq,jF] at h;rcases gK.1 a with rfl|a
  ·exact⟨_,h.1.1⟩
  ·exact QV h.2 e a
def UE (k:κ):∀{a:List MapEntry}{m:List (κ×β)}(i:Nat),a.map (λe=>(e.key,e.val))=m.map (λe=>(kv e.1,vv e.2))→(R0 (MN (kv k)) a i).map (·.2)=(ML kv m k).map vv
 |[],[],_,_=>rfl
 |[],_::_,_,h=>by simp at h
 |x::a,[],_,h=>by simp at h
 |x::a,y::m,i,h=>by
  simp only[iF,List.cons.injEq,jF] at h;have b:=UE k (i+1) h.2;simp only[R0,h.1.1,ML,List.find?_cons] at b ⊢;cases MN (kv k) (kv y.1)
  ·simpa using b
  ·simp [h.1.2]
def Sx (k:κ):∀{a:List MapEntry}{m:List (κ×β)}(i:Nat) (x:β),a.map (λe=>(e.key,e.val))=m.map (λe=>(kv e.1,vv e.2))→R0 (MN (kv k)) a i=none→PM kv m k x=m++[(k,x)]
 |[],[],_,_,_,_=>rfl
 |[],_::_,_,_,h,_=>by simp at h
 |x::a,[],_,_,h,_=>by simp at h
 |x::a,y::m,i,z,h,b=>by
  simp only[iF,List.cons.injEq,jF] at h;simp only[R0,h.1.1] at b;split at b
  ·cases b
  ·rename_i c;simp only[PM,c,iR,iS,Sx k (i+1) z h.2 b,gZ]
def Sw (k:κ) (u:Value):∀{a:List MapEntry}{m:List (κ×β)}(i j:Nat) (v:Value) (x:β),a.map (λe=>(e.key,e.val))=m.map (λe=>(kv e.1,vv e.2))→R0 (MN (kv k)) a i=some (j,v)→
  i≤j∧j-i<a.length∧(∃b,(a[j-i]?).map (·.key)=some (kv b)∧MN (kv k) (kv b)=true)∧(a.modify (j-i) λe=>{ e with key:=kv k,val:=vv x}).map (λe=>(e.key,e.val))=(PM kv m k x).map λe=>(kv e.1,vv e.2)
 |[],_,_,_,_,_,_,h=>by simp [R0] at h
 |x::a,[],_,_,_,_,h,_=>by simp at h
 |x::a,y::m,i,j,v,z,h,c=>by
  simp only[iF,List.cons.injEq,jF] at h;simp only[R0,h.1.1] at c;split at c
  ·rename_i d;obtain⟨rfl,rfl⟩:i=j∧x.val=v:=by simpa using c
   refine⟨gN _,by simp,⟨y.1,by simp [h.1.1],d⟩,?_⟩;simp [PM,d,h.2]
  ·rename_i d;obtain⟨p,g,⟨b,l,n⟩,o⟩:=Sw k u (i+1) j v z h.2 c;have e:j-i=(j-(i+1))+1:=by omega
   refine⟨by omega,by rw[e];simpa using g,⟨b,by rw[e];simpa using l,n⟩,?_⟩;rw[e];simp only[List.modify_succ_cons,iF,PM,d,iR,iS,o,h.1.1,h.1.2]
end
section
variable {P:Program}{ops:Array Oper}{C:World→Prop}{Q:Act→Prop}{n:FN}{m m':SM}{rest:List Oper}
variable {d:Nat}{ty:TypeId}{pos:String}{af:Array Edge}{X Y Z:Operand}{t t1 t2:TypeId}{v p u:Value}{S:Nat→Prop}{L L2:List HP}{h:AT}{b:Nat}
variable {κ β:Type}{kv:κ→Value}{vv:β→Value}{l:List (κ×β)}{k0:κ}{z:β}{kt et:TypeId}
def TV {w:World}{k:Bool}(m:P.underlying t=some (.map kt et)) (i:MV P kt kv) (s:∀w,(zeroValue et).run P w= .ok (vv z) w) {a:Array MapEntry}{c:Nat}(n:w.heap[b]? =some (.map a c)) (o:a.toList.map (λe=>(e.key,e.val))=l.map λe=>(kv e.1,vv e.2)):
  (Instr.lookup t (.map (some b)) (kv k0) k).run P w= .ok (if k then .tuple #[vv ((ML kv l k0).getD z),.bool (ML kv l k0).isSome] else vv ((ML kv l k0).getD z)) w:=by
 have d:=i.find k0 a.toList w (QV o);have g:=UE (kv:=kv) (vv:=vv) k0 0 o;have u:=s w;cases p:R0 (MN (kv k0)) a.toList 0 with
 |none=>
  rw[p] at d g;have j:ML kv l k0=none:=by simpa using g.symm
  simp [Instr.lookup,run_underlying m,MapKept.run_getObj_map n,i.chk,d,u,j]
 |some r=>
  rw[p] at d g;obtain⟨y,j,q⟩:∃y,ML kv l k0=some y∧vv y=r.2:=iH.1 (by simpa using g.symm);obtain⟨v,x⟩:=r;simp only at q;subst q;simp [Instr.lookup,run_underlying m,MapKept.run_getObj_map n,i.chk,d,j]
def Tk {j:Bool}(o:CK C h) (p:St S L h) (q:MP kv vv b l∈L) (s:BU m X=some (.map (some b))) (v:BU m Y=some (kv k0)) (x:P.underlying t=some (.map kt et)) (y:MV P kt kv) (A:∀w,(zeroValue et).run P w= .ok (vv z) w) (hd:Nat.blt d n.1=true)
  (B:(if j then .tuple #[vv ((ML kv l k0).getD z),.bool (ML kv l k0).isSome] else vv ((ML kv l k0).getD z))=u)
  (k:QF P ops C Q rest n ((d,u)::m)):QF P ops C Q (⟨some d,.lookup t X Y j,ty,pos,af,none⟩::rest) n m:=λa g=>by
 refine Cu g hd (λw D=>?_) k;obtain⟨F,⟨G,H,c,I,J,_⟩,i⟩:=p.get q;have K:w.heap[b]? =some (.map H c):=(o w D b (i b ((G b).2 rfl)).1).trans I;simp [execOp,g.eval s,g.eval v,TV x y A K J,B]
end
section
variable {P:Program}{ops:Array Oper}{Q:Exit→Act→World→Prop}{n:FN}{m:SM}{rest:List Oper}
variable {d:Nat}{ty:TypeId}{pos:String}{af:Array Edge}{X Y Z:Operand}{B w:World}{h:AT}{S:Nat→Prop}{L L2:List HP}{v:Value}{t kt et:TypeId}{b:Nat}
variable {κ β:Type}{kv:κ→Value}{vv:β→Value}{l:List (κ×β)}{k0:κ}{x:β}
def Tm (hs:St S L h) (rp:Lb L (MP kv vv b l) (MP kv vv b (PM kv l k0 x)) L2) (hx:BU m X=some (.map (some b))) (hy:BU m Y=some (kv k0)) (hz:BU m Z=some (vv x)) (hT:P.underlying t=some (.map kt et)) (H:MV P kt kv)
  (k:∀h',St S L2 h'→B6 S h S h'→LF P ops Q rest B h' n m):LF P ops Q (⟨none,.mapUpdate t X Y Z,ty,pos,af,none⟩::rest) B h n m:=by
 intro a w q v;refine wpList_plain rfl λK y=>?_;unfold Oper.wp;obtain⟨M,p,_⟩:=rp.pick;obtain⟨F,⟨g1,s,c,g2,I,g4⟩,hF,_⟩:=Sp.pick p hs.2;have z:w.heap[b]? =some (.map s c):=by rw[v.heap];exact g2
 have J:=H.find k0 s.toList w (QV I);have A:∀(o:Obj) (h0:w.heap=h),(∀c',c'≠b→(w.heap.setIfInBounds b o)[c']? =h[c']?)∧(w.heap.setIfInBounds b o)[b]? =some o∧(w.heap.setIfInBounds b o).size=h.size:=λo h0=>by
  have U:b<w.heap.size:=(gR.1 z).1;refine⟨λc' C=>by rw[kM (Ne.symm C),h0],?_,by simp [h0]⟩;rw[Array.getElem?_setIfInBounds_self];simp [U]
 have D:∀(d:Array MapEntry) (c':Nat),d.toList.map (λe=>(e.key,e.val))=(PM kv l k0 x).map (λe=>(kv e.1,vv e.2))→Mu d.toList c'→wpList P ops Q rest a { w with heap:=w.heap.setIfInBounds b (.map d c')}:=λd c' he V=>by
  obtain⟨s1,s2,s3⟩:=A (.map d c') v.heap;have W:Wd B (w.heap.setIfInBounds b (.map d c')) { w with heap:=w.heap.setIfInBounds b (.map d c')}:=⟨rfl,v.os,v.tape,v.out⟩
  obtain⟨u1,u2⟩:=hs.upd (h':=w.heap.setIfInBounds b (.map d c')) rp (by omega) λF k1 k2=>⟨F,⟨k1.1,d,c',s2,he,V⟩,λc C=> .inl C,λc _ C=>s1 c λe=>C ((k1.1 c).2 e)⟩
  exact k _ u1 u2 a _ q W
 cases i:R0 (MN (kv k0)) s.toList 0 with
 |none=>
  rw[i] at J;have g:(execOp a.eval ⟨none,.mapUpdate t X Y Z,ty,pos,af,none⟩).run P w= .ok .skip { w with heap:=w.heap.setIfInBounds b (.map (s.push { key:=kv k0,val:=vv x,born:=c}) (c+1))}:=by
   simp [execOp,q.eval hx,q.eval hy,q.eval hz,Instr.mapUpdate,run_underlying hT,MapKept.run_getObj_map z,H.chk,J,MapKept.run_setObj_map _ z]
  rw[g];refine y _ _ (D _ _ ?_ (by rw[Array.toList_push];exact g4.push _ rfl));rw[Sx k0 0 x I i];simp [I]
 |some r=>
  obtain⟨j,r2⟩:=r;rw[i] at J;obtain⟨_,q2,⟨k',q3,q4⟩,q5⟩:=Sw k0 (vv x) 0 j r2 x I i;have G:((s[j]?).map (·.key)).getD (kv k0)=kv k':=by
   have:(s[j]?).map (·.key)=some (kv k'):=by simpa using q3
   simp [this]
  have u:(Instr.keyThatStays (kv k') (kv k0)).run P w= .ok (kv k0) w:=by simp [Instr.keyThatStays,H.same _ _ q4]
  have g:(execOp a.eval ⟨none,.mapUpdate t X Y Z,ty,pos,af,none⟩).run P w= .ok .skip { w with heap:=w.heap.setIfInBounds b (.map (s.modify j λe=>{ e with key:=kv k0,val:=vv x}) c)}:=by
   simp [execOp,q.eval hx,q.eval hy,q.eval hz,Instr.mapUpdate,run_underlying hT,MapKept.run_getObj_map z,H.chk,J,G,u,MapKept.run_setObj_map _ z]
  rw[g];refine y _ _ (D _ _ ?_ (by rw[Array.toList_modify];exact g4.of (Su _ _ _ λ_=>rfl)));simpa using q5
def We {K E:TypeId}(hd:Nat.blt d n.1=true) (o:St S L h) (kv:κ→Value) (vv:β→Value)
  (k:∀b h',St S (MP kv vv b []::L) h'→B6 S h S h'→LF P ops Q rest B h' n ((d,.map (some b))::m)):LF P ops Q (⟨some d,.makeMap t none,ty,pos,af,none⟩::rest) B h n m:=by
 intro a w p l;refine wpList_plain rfl λK g=>?_;unfold Oper.wp;have c:(execOp a.eval ⟨some d,.makeMap t none,ty,pos,af,none⟩).run P w= .ok (.value (.map (some w.heap.size))) (w.alloc (.map #[] 0)):=by
  first|rfl|(simp [execOp,Instr.makeMap,newObj,Sem.run])
 rw[c];obtain⟨q,s⟩:=o.add (h':=h.push (.map #[] 0)) (H':=MP kv vv h.size []) (by simp) (λb i=>Ed _ _ _ i) ⟨λb=>b=h.size,⟨λ_=>iM,#[],0,Jr _ _,rfl,List.nodup_nil,λx u=>by cases u⟩,λb i=>by subst i;simp⟩;have j:=l.heap;exact g _ _ (k w.heap.size _ (by rw[j];exact q) s _ _ (p.put hd _) (l.alloc _))
end
def eD (P:Program) (T:TypeId):Option (List (Nat×Nat)×List Value):=
 match P.underlying T,Cx P T with
 |some (.array n e),some z=>(P.info? e).map λi=>((List.range n).map λk=>(k*i.size,i.size),z)
 |_,_=>none
def fI (P:Program) (t len sz:Nat):Bool:=
 match P.underlying t with
 |some (.array n e)=>Nat.beq n len&&(match P.info? e with|some i=>Nat.beq i.size sz|none=>false)
 |_=>false
def RZ {p q:Nat→Option (Nat×Nat)}(h:∀i x,p i=some x→q i=some x):∀(pv:List (Nat×Value)) (cs cs':Array Value),Instr.fill p cs pv=some cs'→Instr.fill q cs pv=some cs'
 |[],_,_,e=>e
 |(i,v)::r,cs,cs',e=>by
  simp only[Instr.fill] at e ⊢;cases a:p i with
  |none=>rw[a] at e;cases e
  |some x=>
   obtain⟨o,s⟩:=x;rw[a] at e;rw[h i _ a];simp only at e ⊢;split at e
   ·cases e
   ·rename_i b;rw[gL b];exact RZ h r _ _ e
def V9 {P:Program}{T:TypeId}{pl z pv cs}(h:eD P T=some (pl,z)) (o:Ln pl z pv=some cs):P.built T pv=some cs.toArray:=by
 unfold eD at h;split at h
 ·rename_i n e p s a;simp only[iH,jF] at h;obtain⟨g,b,rfl,rfl⟩:=h;unfold Cx at a;simp only[iH,iZ] at a;obtain⟨w,⟨i,t,c⟩,d⟩:=a;simp only[Program.built,t,s,c,b];have l:=Md _ pv p cs o;rw[←d] at l;have u:=RZ (q:=λi=>some (i*g.size,g.size)) (λj x m=>by
   rw[List.getElem?_toArray,List.getElem?_map] at m;obtain⟨k,v,rfl⟩:=iH.1 m;obtain⟨_,rfl⟩:=hJ.1 v;simp) pv _ _ l
  simpa using u
 ·cases h
section
variable {P:Program}{ops:Array Oper}{C:World→Prop}{Q:Act→Prop}{n:FN}{m m':SM}{rest:List Oper}
variable {d:Nat}{ty:TypeId}{pos:String}{af:Array Edge}{X Y Z:Operand}{t:TypeId}{S:Nat→Prop}{L:List HP}{h:AT}{i:Int}{kd:IntKind}
def XX {T:TypeId}{b:Array (Nat×Operand)}{pl z pv cs}(s:eD P T=some (pl,z)) (c:b.toList.mapM (W0 m)=some pv) (o:Ln pl z pv=some cs) (hd:Nat.blt d n.1=true) (k:QF P ops C Q rest n ((d,.agg cs.toArray)::m)):QF P ops C Q (⟨some d,.build T b,ty,pos,af,none⟩::rest) n m:=λa q=>by
 refine Cu q hd (λw _=>?_) k;have i:(b.map λ(p:Nat×Operand)=>(p.1,a.eval p.2)).toList=pv:=by
  obtain⟨l⟩:=b;simp only at c;simp only[List.map_toArray];clear o k
  induction l generalizing pv with
  |nil=>simp at c;subst c;rfl
  |cons x l t=>
   simp only[jO,kC,iZ,W0,iH] at c;obtain⟨y,⟨v,u,rfl⟩,A,j,g⟩:=c;simp only[Option.pure_def,hY] at g;subst g;simp only[iF,q.eval u,t j]
 have:=run_build (P:=P) w T (b.map λ(p:Nat×Operand)=>(p.1,a.eval p.2)) cs.toArray (by rw[i];exact V9 s o);simp only[execOp,Sem.run_bind,this];rfl
def aJ {b o len sz:Nat}(u:BU m X=some (.pointer (some ⟨b,o,none⟩))) (v:BU m Y=some (.int kd i)) (c:fI P t len sz=true) (h0:0≤i) (x:i<len) (hd:Nat.blt d n.1=true)
  (k:QF P ops C Q rest n ((d,.pointer (some ⟨b,o+i.toNat*sz,none⟩))::m)):QF P ops C Q (⟨some d,.indexAddr t X Y,ty,pos,af,none⟩::rest) n m:=λa l=>by
 unfold fI at c;split at c
 ·rename_i z e y;simp only[gG] at c;obtain⟨p,g⟩:=c;have p:=gH p;subst p;split at g
  ·rename_i s q;have g:=gH g;subst g;have j:(⟨b,o,none⟩:Addr).add (i.toNat*s.size)=⟨b,o+i.toNat*s.size,none⟩:=by unfold Addr.add;split<;>simp_all
   exact Cu l hd (λw _=>by simp [execOp,l.eval u,l.eval v,Instr.indexAt,asIntOf,run_underlying y,Instr.sureAddr,h0,x,PJ q,j]) k
  ·cases g
 ·cases c
def XU {B:Type}{T b o:Nat}{cs:List Value}{l:List B}{z:B}(f:B→Value) (p:CK C h) (q:St S L h) (s:BU m X=some (.pointer (some ⟨b,o+i.toNat*1,none⟩))) (u:Bx b T cs∈L) (v:(cs.drop o).take l.length=l.map f) (w:Go.Proofs.YtedgiljmffngoaaGreat.ix l i=some z) (x:Ie P t 1 false=true) (hd:Nat.blt d n.1=true)
  (k:QF P ops C Q rest n ((d,f z)::m)):QF P ops C Q (⟨some d,.load t X,ty,pos,af,none⟩::rest) n m:=by
 obtain⟨h0,g⟩:=Gj w;have y:(cs.drop (o+i.toNat*1)).take 1=[f z]:=by
  have j:((cs.drop o).take l.length)[i.toNat]? =some (f z):=by rw[v,List.getElem?_map,g];rfl
  have c:i.toNat<l.length:=(hJ.1 g).1;rw[iG c,jN] at j;rw[iO];obtain⟨a,A⟩:=hJ.1 j;rw[jX a,A];rfl
 exact Eb (vs:=[f z]) p q s u y rfl x rfl hd k
end
def U8 (h:AT) (T:TypeId) (cs:List Value) (v:Value) (a:AT):Prop:=∃b,v= .pointer (some ⟨b,0,none⟩)∧h.size≤b∧b<a.size∧a[b]? =some (.cells cs.toArray T (0,0))
def U8.mono {h a c:AT}{T cs v}(k:U8 h T cs v a) (o:CF a c):U8 h T cs v c:=by
 obtain⟨b,e,g,d,i⟩:=k;exact⟨b,e,g,gJ d o.siz,(o.same b d).trans i⟩
def U8.st {h g:AT}{T cs v}{S:Nat→Prop}{L:List HP}(k:U8 h T cs v g) (d:St S L h) (o:CF h g):∃b,v= .pointer (some ⟨b,0,none⟩)∧St S (Bx b T cs::L) g:=by
 obtain⟨b,e,m,i,j⟩:=k;refine⟨b,e,λc a=>gJ (d.1 c a) o.siz,λc=>c=b,⟨λ_=>iM,j⟩,λc a=>by subst a;exact⟨i,λl=>absurd (d.1 c l) (by omega)⟩,?_⟩;refine Sp.ext d.2 (λ_ x=>x) (λc a=>o.same c (a.elim (d.1 c) (·.1))) λc a=>⟨⟨gJ a.1 o.siz,a.2⟩,λe=>by have:=a.1;omega⟩
def Wg {P:Program}{ops:Array Oper}{Q:Exit→Act→World→Prop}{n:FN}{m:SM}{rest:List Oper}{d:Nat}{ty:TypeId}{pos:String}{af:Array Edge}{B:World}{h j:AT}{T:TypeId}{cs:List Value}(o:CF h j) (c:Cx P T=some cs) (hd:Nat.blt d n.1=true)
  (k:∀v h',CF j h'→U8 h T cs v h'→LF P ops Q rest B h' n ((d,v)::m)):LF P ops Q (⟨some d,.alloc T,ty,pos,af,none⟩::rest) B j n m:=by
 intro a w s q;refine wpList_plain rfl λK t=>?_;unfold Oper.wp;unfold Cx at c;simp only[iH,iZ] at c;obtain⟨z,⟨i,u,c⟩,l⟩:=c;have x:z.cells=cs.toArray:=by rw[←l]
 have g:(execOp a.eval ⟨some d,.alloc T,ty,pos,af,none⟩).run P w= .ok (.value (.pointer (some ⟨w.heap.size,0,none⟩))) (w.alloc (.cells cs.toArray T)):=by
  simp [execOp,Instr.alloc,newVar,newRow,zeroValue,typeInfo,u,c,x]
 rw[g];have p:=q.heap;exact t _ _ (k _ _ ⟨by simp,λb y=>Ed _ _ _ y⟩ ⟨j.size,by rw[p],o.siz,by simp,Jr _ _⟩ _ _ (s.put hd _) (q.alloc _))
end Go.Proofs.YtedgiljmffngoaaGreat
