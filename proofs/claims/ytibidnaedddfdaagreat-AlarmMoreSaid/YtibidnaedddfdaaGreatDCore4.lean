import Derived.Test.YtibidnaedddfdaaGreatDCore3
import Derived.Great.BuildSlice
namespace Go.Proofs.YtibidnaedddfdaaGreat
set_option linter.all false
open Go.RowKit
def D7 (P:Program) (t:TypeId):Option (List Value):=((P.info? t).bind (·.zero)).map (·.cells.toList)
def Bx (b:Nat) (T:TypeId) (cs:List Value):HP where
 holds:=λ_ F h=>(∀c,F c↔c=b)∧h[b]? =some (.cells cs.toArray T (0,0))
 loc:=λ⟨a,d⟩ _ e=>⟨a,(e _ (.inr ((a _).2 rfl))).trans d⟩
def Bx.cell {b T cs S F h}(k:(Bx b T cs).holds S F h) (j:Nat):Gt h ⟨b,j,none⟩=cs[j]? :=by simp [Gt,k.2]
def Ft (h:BB) (o:Obj) (b:Nat) (a:b<h.size):(h.push o)[b]? =h[b]? :=by rw[Array.getElem?_push,iP (by omega)]
def Iq (h:BB) (o:Obj):(h.push o)[h.size]? =some o:=by simp
def Wd.alloc {B h w}(k:Wd B h w) (o:Obj):Wd B (h.push o) (w.alloc o):=⟨by show(w.heap.push o)=_;rw[k.heap],k.os,k.tape,k.out⟩
def St.push {S L h}(c:St S L h) (T:TypeId) (cs:List Value):St S (Bx h.size T cs::L) (h.push (.cells cs.toArray T))∧Cm S h S (h.push (.cells cs.toArray T)):=
 c.add (by simp) (λb a=>Ft _ _ _ a) ⟨λb=>b=h.size,⟨λ_=>Iff.rfl,Iq _ _⟩,λb a=>by subst a;simp⟩
section
variable {P:Program}{ops:Array Oper}{Q:Exit→Act→World→Prop}{n:FN}{a:Act}{m:List (Nat×Value)}{rest:List Oper}
variable {d:Nat}{ty:TypeId}{pos:String}{af:Array Edge}{X:Operand}{B w:World}{h:BB}{S:Nat→Prop}{L:List HP}
def Yz {T:TypeId}{v:Value}{cs:List Value}(g:Fr n a m) (j:CE m X=some v) (l:v.cells=cs.toArray) (hd:Nat.blt d n.1=true) (i:Wd B h w) (o:St S L h)
  (k:∀b a w h',Fr n a ((d,.pointer (some ⟨b,0,none⟩))::m)→Wd B h' w→St S (Bx b T cs::L) h'→Cm S h S h'→wpList P ops Q rest a w):
  wpList P ops Q (⟨some d,.box T X,ty,pos,af,none⟩::rest) a w:=by
 refine wpList_plain rfl λK p=>?_
 unfold Oper.wp
 have c:(execOp a.eval ⟨some d,.box T X,ty,pos,af,none⟩).run P w= .ok (.value (.pointer (some ⟨w.heap.size,0,none⟩))) (w.alloc (.cells cs.toArray T)):=by
  simp [execOp,g.eval j,Instr.box,newVar,newRow,l]
 rw[c]
 obtain⟨q,s⟩:=o.push T cs
 exact p _ _ (k _ _ _ _ (g.put hd _) (i.alloc _) (by rw[i.heap];exact q) s)
def Zm {T:TypeId}{v:Value}{α}{r:B7 α}{x:α}(y:Fr n a m) (z:CE m X=some v) (A:Rd S h r v x) (C:r.ag=false→r.sz=1) (hd:Nat.blt d n.1=true) (D:Wd B h w) (G:St S L h)
  (k:∀p a w S' h',Fr n a ((d,p)::m)→Wd B h' w→St S' L h'→Cm S h S' h'→Pt S' h' r p x→wpList P ops Q rest a w):
  wpList P ops Q (⟨some d,.box T X,ty,pos,af,none⟩::rest) a w:=by
 obtain⟨cs,H,g⟩:=A
 have I:v.cells=cs.toArray:=by
  subst H
  unfold B7.val
  cases i:r.ag with
  |true=>rfl
  |false=>
   have t:=r.len g
   rw[C i] at t
   match cs,t,g with
   |[c],_,g=>
    have J:=r.one g c (by simp)
    cases c<;>first|rfl|(simp [Value.oneCell'] at J)
 refine Yz y z I hd D G λb a w h' l o q e=>?_
 obtain⟨F,u,M,K,s⟩:=q.pub .head
 refine k _ a w _ h' l o K (e.trans s) ⟨cs,⟨⟨b,0,none⟩,rfl,rfl,.inr ((u.1 _).2 rfl),λj U=>?_⟩,r.mono (r.mono g e.sub e.same) s.sub s.same⟩
 simp only[jR]
 exact Bx.cell u j
def gU {T:TypeId}{cs:List Value}(o:Fr n a m) (c:D7 P T=some cs) (hd:Nat.blt d n.1=true) (l:Wd B h w) (p:St S L h)
  (k:∀b a w h',Fr n a ((d,.pointer (some ⟨b,0,none⟩))::m)→Wd B h' w→St S (Bx b T cs::L) h'→Cm S h S h'→wpList P ops Q rest a w):
  wpList P ops Q (⟨some d,.alloc T,ty,pos,af,none⟩::rest) a w:=by
 refine wpList_plain rfl λK q=>?_
 unfold Oper.wp
 unfold D7 at c
 simp only[kL,kX] at c
 obtain⟨z,⟨i,s,c⟩,j⟩:=c
 have t:z.cells=cs.toArray:=by rw[←j]
 have g:(execOp a.eval ⟨some d,.alloc T,ty,pos,af,none⟩).run P w= .ok (.value (.pointer (some ⟨w.heap.size,0,none⟩))) (w.alloc (.cells cs.toArray T)):=by
  simp [execOp,Instr.alloc,newVar,newRow,zeroValue,typeInfo,s,c,t]
 rw[g]
 obtain⟨u,v⟩:=p.push T cs
 exact q _ _ (k _ _ _ _ (o.put hd _) (l.alloc _) (by rw[l.heap];exact u) v)
def Fs (cs:List Value) (o:Nat) (vs:List Value):List Value:=cs.take o++vs++cs.drop (o+vs.length)
def NU (w:World) (i:Nat) (a c':Array Value) (T:TypeId) (c:w.heap[i]? =some (.cells a T (0,0))):
  ∃h',(w.setRow i c').heap=h'∧h'.size=w.heap.size∧h'[i]? =some (.cells c' T (0,0))∧∀b,b≠i→h'[b]? =w.heap[b]? :=by
 refine⟨_,rfl,?_,setRow_heap w i a _ T _ c,λb d=>setRow_other w i b _ d⟩
 simp [World.setRow]
def gR {T d:TypeId}{Y:Operand}{b o:Nat}{v:Value}{cs vs cs':List Value}{A:List HP}{sz:Nat}{ag:Bool}(t:Fr n a m) (I:CE m X=some (.pointer (some ⟨b,o,none⟩))) (J:CE m Y=some v) (U:v.cells=vs.toArray) (V:∀u∈vs,u.oneCell'=true)
  (W:Hd P T sz ag=true) (x:vs.length=sz) (g:Nat.ble (o+sz) cs.length=true) (Z:Fs cs o vs=cs') (j:Wd B h w) (C:St S L h) (r:KA L (Bx b d cs) (Bx b d cs') A)
  (k:∀a w h',Fr n a m→Wd B h' w→St S A h'→Cm S h S h'→wpList P ops Q rest a w):
  wpList P ops Q (⟨none,.store T X Y,ty,pos,af,none⟩::rest) a w:=by
 refine wpList_plain rfl λK hK=>?_
 unfold Oper.wp
 obtain⟨M,p,_⟩:=r.pick
 obtain⟨F,g1,g2,_⟩:=Sp.pick p C.2
 have D:w.heap[b]? =some (.cells cs.toArray d (0,0)):=by rw[j.heap];exact g1.2
 obtain⟨i,dd,hi,hd,y,aa⟩:=NN W
 have l:=run_storeCells_at P b o d vs 0 cs.toArray w D (by simp;have:=mC g;omega) V
 have q:(List.take (o+0) cs.toArray.toList++vs++List.drop (o+0+vs.length) cs.toArray.toList)=cs':=by rw[←Z];simp [Fs]
 rw[q] at l
 have s:(execOp a.eval ⟨none,.store T X Y,ty,pos,af,none⟩).run P w= .ok .skip (w.setRow b cs'.toArray):=by
  simp [execOp,t.eval I,t.eval J,Instr.storeAt,Instr.sureAddr,storeVar,U,OB hi,y,x,l]
 rw[s]
 obtain⟨h',e1,e2,e3,G⟩:=NU w b cs.toArray cs'.toArray d D
 rw[j.heap] at e2 G
 obtain⟨u1,u2⟩:=C.upd (h':=h') r (by omega) λF H k2=>⟨F,⟨H.1,e3⟩,λc z=> .inl z,λc _ z=>G c λe=>z ((H.1 c).2 e)⟩
 exact hK _ _ (k _ _ h' t ⟨e1,j.os,j.tape,j.out⟩ u1 u2)
end
def Uz (vs:List Value):∀(cs:List Value) (o k:Nat),o+k+vs.length≤cs.length→
  (vs.zipIdx k).foldl (λcs (p:Value×Nat)=>cs.set (o+p.2) p.1) cs=cs.take (o+k)++vs++cs.drop (o+k+vs.length):=by
 induction vs with
 |nil=>intro cs o k h;simp
 |cons v vs b=>
  intro cs o k h
  simp only[List.length_cons] at h
  simp only[List.zipIdx_cons,List.foldl_cons]
  rw[b (cs.set (o+k) v) o (k+1) (by simp;omega)]
  have a:o+k<cs.length:=by omega
  have c:o+(k+1)=(o+k)+1:=by omega
  have d:o+k+1+vs.length=o+k+(vs.length+1):=by omega
  rw[c,d,List.drop_set_of_lt (by omega),List.length_cons,mD (by simpa using a),List.getElem_set_self,List.take_set_of_le (by omega)]
  simp
def PS (f:Nat→Nat):∀(l:List (Value×Nat)) (cs:List Value),
  l.foldl (λ(cs:Array Value) (p:Value×Nat)=>cs.setIfInBounds (f p.2) p.1) cs.toArray=(l.foldl (λcs (p:Value×Nat)=>cs.set (f p.2) p.1) cs).toArray
 |[],cs=>rfl
 |p::l,cs=>by
  simp only[List.foldl_cons]
  rw[List.setIfInBounds_toArray,PS f l]
def KQ (b:List (Nat×Nat)):List Value→List (Nat×Value)→Option (List Value)
 |cs,[]=>some cs
 |cs,(i,v)::r=>match b[i]? with
  |none=>none
  |some (a,sz)=>cond (Nat.beq v.cells.toList.length sz&&Nat.ble (a+sz) cs.length) (KQ b (Fs cs a v.cells.toList) r) none
def K3 (b:List (Nat×Nat)):∀(j:List (Nat×Value)) (cs cs':List Value),KQ b cs j=some cs'→Instr.fill (b.toArray[·]?) cs.toArray j=some cs'.toArray
 |[],cs,cs',h=>by simp [KQ] at h;subst h;rfl
 |(i,v)::r,cs,cs',h=>by
  simp only[KQ] at h
  split at h
  ·cases h
  ·rename_i a sz k
   cases c:(Nat.beq v.cells.toList.length sz&&Nat.ble (a+sz) cs.length) with
   |false=>rw[c] at h;cases h
   |true=>
    rw[c] at h
    simp only[iN] at h
    simp only[iQ] at c
    have l:v.cells.size=sz:=by simpa using iX c.1
    have n:=mC c.2
    have m:=K3 b r _ cs' h
    have g:b.toArray[i]? =some (a,sz):=by simpa using k
    simp only[Instr.fill,g]
    rw[iP (by simp [l];omega)]
    have d:v.cells.zipIdx.foldl (λ(cs:Array Value) (p:Value×Nat)=>cs.setIfInBounds (a+p.2) p.1) cs.toArray=(Fs cs a v.cells.toList).toArray:=by
     rw[←Array.foldl_toList,Array.toList_zipIdx,PS (a+ ·),Uz _ _ _ _ (by simp;omega)]
     simp [Fs]
    exact(jA (λx=>Instr.fill (b.toArray[·]?) x r) d).trans m
def TB (P:Program) (T:TypeId):Option (List (Nat×Nat)×List Value):=
 match P.underlying T,D7 P T with
 |some (.struct a),some z=>(a.toList.mapM (λf=>(P.info? f.type).map λi=>(f.offset,i.size))).map λb=>(b,z)
 |_,_=>none
def W1 {P:Program}{T:TypeId}{pl z pv cs}(h:TB P T=some (pl,z)) (g:KQ pl z pv=some cs):P.built T pv=some cs.toArray:=by
 unfold TB at h
 split at h
 ·rename_i n j k a
  simp only[kL,lU] at h
  obtain⟨b,l,rfl,rfl⟩:=h
  unfold D7 at a
  simp only[kL,kX] at a
  obtain⟨o,⟨i,m,c⟩,d⟩:=a
  simp only[Program.built,m,k,c,l]
  have:=K3 b pv j cs g
  rw[←d] at this
  simpa using this
 ·cases h
def Jz:Value→Nat
 | .int _ _=>1| .bool _=>2| .string _=>3|_=>0
def XW:Value→Value→Bool
 | .int _ a,.int _ b=>decide (a=b)
 | .bool a,.bool b=>a==b
 | .string a,.string b=>a==b
 |_,_=>false
def P3:List Value→List Value→Bool
 |[],_=>true
 |_::_,[]=>true
 |a::r,b::s=>XW a b&&P3 r s
section
variable {P:Program}{ops:Array Oper}{C:World→Prop}{Q:Act→Prop}{n:FN}{a:Act}{m:List (Nat×Value)}{rest:List Oper}
variable {d:Nat}{ty:TypeId}{pos:String}{af:Array Edge}{X Y:Operand}
def Xp (m:List (Nat×Value)) (p:Nat×Operand):Option (Nat×Value):=(CE m p.2).map λv=>(p.1,v)
def dK {T:TypeId}{b:Array (Nat×Operand)}{pl z pv cs}(o:Fr n a m) (s:TB P T=some (pl,z)) (c:b.toList.mapM (Xp m)=some pv) (q:KQ pl z pv=some cs) (hd:Nat.blt d n.1=true)
  (k:∀a,Fr n a ((d,.agg cs.toArray)::m)→wpQuiet P ops C Q rest a):wpQuiet P ops C Q (⟨some d,.build T b,ty,pos,af,none⟩::rest) a:=by
 refine Fo o hd (λw _=>?_) k
 have i:(b.map λ(p:Nat×Operand)=>(p.1,a.eval p.2)).toList=pv:=by
  obtain⟨l⟩:=b
  simp only at c
  simp only[List.map_toArray]
  clear q k
  induction l generalizing pv with
  |nil=>simp at c;subst c;rfl
  |cons x l t=>
   simp only[lT,mR,kX,Xp,kL] at c
   obtain⟨y,⟨v,u,rfl⟩,A,j,g⟩:=c
   simp only[Option.pure_def,jU] at g
   subst g
   simp only[jZ,o.eval u,t j]
 have:=run_build (P:=P) w T (b.map λ(p:Nat×Operand)=>(p.1,a.eval p.2)) cs.toArray (by rw[i];exact W1 s q)
 simp only[execOp,Sem.run_bind,this]
 rfl
def Zs (P:Program) (T:TypeId):Option (List Nat):=
 if P.stoodInHeld T||P.eqGuardType P.depth T then none else
 match P.underlying T with
 |some (.struct a)=>a.toList.zipIdx.mapM λ(f,i)=>
  if f.name== "_" || !Nat.beq f.offset i then none else
  match P.underlying f.type with
  |some (.int _)=>some 1
  |some .bool=>some 2
  |some .string=>some 3
  |_=>none
 |_=>none
def NY {w:World}:∀(D:List Field) (t:List Nat) (i d:Nat) (xs c:List Value),
  (D.zipIdx i).mapM (λ(p:Field×Nat)=>if p.1.name== "_" || !Nat.beq p.1.offset p.2 then none else
   match P.underlying p.1.type with
   |some (.int _)=>some 1
   |some .bool=>some 2
   |some .string=>some 3
   |_=>none)=some t→(xs.drop i).map Jz=t→(c.drop i).map Jz=t→(∀(j:Nat) (G:IntKind) (n1:Int) (Z:IntKind) (n2:Int),xs[j]? =some (Value.int G n1)→c[j]? =some (Value.int Z n2)→G=Z)→
  (Op.eqFields (d+1) xs.toArray c.toArray D).run P w= .ok (P3 (xs.drop i) (c.drop i)) w
 |[],t,i,d,xs,c,h,l,m,H=>by
  simp at h;subst h
  have h1:xs.drop i=[]:=by simpa using l
  rw[h1];rfl
 |f::D,t,i,d,xs,c,h,l,m,H=>by
  simp only[List.zipIdx_cons,lT,mR,kX] at h
  obtain⟨G,a,I,u,v⟩:=h
  simp only[Option.pure_def,jU] at v
  subst v
  split at a
  ·cases a
  ·rename_i g
   simp only[jC,not_or,Bool.not_eq_true,jI,Bool.not_eq_false] at g
   obtain⟨J,K⟩:=g
   have A:=iX K
   have M:f.name≠ "_" :=by simpa using J
   cases n:xs.drop i with
   |nil=>rw[n] at l;simp at l
   |cons x xr=>
   cases o:c.drop i with
   |nil=>rw[o] at m;simp at m
   |cons y yr=>
   rw[n] at l;rw[o] at m
   simp only[jZ,List.cons.injEq] at l m
   have q:xs[i]? =some x:=by have:=jA (·[0]?) n;simpa using this
   have s:c[i]? =some y:=by have:=jA (·[0]?) o;simpa using this
   have B:xs.drop (i+1)=xr:=by have:=jA List.tail n;simpa [List.tail_drop] using this
   have C:c.drop (i+1)=yr:=by have:=jA List.tail o;simpa [List.tail_drop] using this
   have F:=NY (w:=w) D I (i+1) d xs c u (by rw[B];exact l.2) (by rw[C];exact m.2) H
   rw[B,C] at F
   have b:∀Q,P.underlying f.type=some Q→YN Q=false→∀(U:List Value) z,U[i]? =some z→(part f.type U.toArray f.offset).run P w= .ok z w:=by
    intro Q V b U z hz
    simp [part,QN V,b,A,hz]
   simp only[Op.eqFields,iR M,Sem.run_bind,P3]
   split at a
   ·rename_i kk k
    simp only[jU] at a;subst a
    rw[b _ k rfl xs x q];simp only[Result.andThen_ok]
    rw[b _ k rfl c y s];simp only[Result.andThen_ok]
    cases x<;>simp [Jz] at l
    cases y<;>simp [Jz] at m
    rename_i ka W kb nb
    have:=H i ka W kb nb q s
    subst this
    rw[run_equalIn_int w d f.type ka kk W nb k]
    simp only[Result.andThen_ok,XW,Sem.run_ite,Sem.run_pure]
    rw[Ov]
    cases decide (W=nb)<;>simp [F]
   ·rename_i k
    simp only[jU] at a;subst a
    rw[b _ k rfl xs x q];simp only[Result.andThen_ok]
    rw[b _ k rfl c y s];simp only[Result.andThen_ok]
    cases x<;>simp [Jz] at l
    cases y<;>simp [Jz] at m
    rw[run_equalIn_bool' w d f.type _ _ k]
    simp only[Result.andThen_ok,XW,Sem.run_ite,Sem.run_pure]
    rename_i X Y
    cases (X==Y)<;>simp [F]
   ·rename_i k
    simp only[jU] at a;subst a
    rw[b _ k rfl xs x q];simp only[Result.andThen_ok]
    rw[b _ k rfl c y s];simp only[Result.andThen_ok]
    cases x<;>simp [Jz] at l
    cases y<;>simp [Jz] at m
    rw[run_equalIn_string w d f.type _ _ k]
    simp only[Result.andThen_ok,XW,Sem.run_ite,Sem.run_pure]
    rename_i X Y
    rw[beq_toListBytes]
    cases (X.toList==Y.toList)<;>simp [F]
   ·cases a
def NX:List Value→List Value→Bool
 | .int k _::r,.int l _::s=>decide (k=l)&&NX r s
 |_::r,_::s=>NX r s
 |_,_=>true
def PH:∀(xs p:List Value),NX xs p=true→∀(j:Nat) (c:IntKind) (m:Int) (d:IntKind) (n:Int),xs[j]? =some (Value.int c m)→p[j]? =some (Value.int d n)→c=d
 |[],_,_,j,_,_,_,_,h,_=>by simp at h
 |_::_,[],_,j,_,_,_,_,_,h=>by simp at h
 |x::r,y::s,h,0,c,m,d,n,g,i=>by
  simp only[lE,jU] at g i
  subst g;subst i
  simp only[NX,iQ,jG] at h
  exact h.1
 |x::r,y::s,h,j+1,c,m,d,n,g,i=>by
  simp only[lF] at g i
  refine PH r s ?_ j c m d n g i
  unfold NX at h
  split at h
  ·rename_i k l
   simp only[iQ] at h
   injection k with k a;injection l with l b
   subst a;subst b
   exact h.2
  ·rename_i k l
   injection k with k a;injection l with l b
   subst a;subst b
   exact h
  ·rename_i q o
   exact absurd rfl (o _ _ _ _ rfl)
def SH {T:TypeId}{c:List Nat}{xs a:List Value}{w:World}(h:Zs P T=some c) (k:xs.map Jz=c) (l:a.map Jz=c) (m:NX xs a=true):
  (Op.equalIn 10000 T (.agg xs.toArray) (.agg a.toArray)).run P w= .ok (P3 xs a) w∧∀(d:BinOp) (x y:Operand),(eqGuard d T x y (.agg xs.toArray) (.agg a.toArray)).run P w= .ok () w:=by
 unfold Zs at h
 split at h
 ·cases h
 ·rename_i g
  simp only[jC,not_or,Bool.not_eq_true] at g
  split at h
  ·rename_i i j
   refine⟨?_,λd x y=>run_eqGuard_agg w d T x y _ _ g.2⟩
   have b:P.fieldsOf T=i:=by simp [Program.fieldsOf,j]
   have:=run_equalIn_struct (P:=P) w 9999 T xs.toArray a.toArray (by rw[b];exact j) g.1
   rw[this,b]
   exact NY i.toList c 0 9998 xs a h (by simpa using k) (by simpa using l) (PH xs a m)
  ·cases h
def dI {T t2:TypeId}{ks xs ys}(b:Fr n a m) (i:CE m X=some (.agg xs)) (j:CE m Y=some (.agg ys)) (l:Zs P T=some ks) (o:xs.toList.map Jz=ks) (p:ys.toList.map Jz=ks) (q:NX xs.toList ys.toList=true) (hd:Nat.blt d n.1=true)
  (k:∀a,Fr n a ((d,.bool (P3 xs.toList ys.toList))::m)→wpQuiet P ops C Q rest a):wpQuiet P ops C Q (⟨some d,.binOp .eql T X Y t2,ty,pos,af,none⟩::rest) a:=
 Fo b hd (λw _=>by
  obtain⟨c,g⟩:=SH (w:=w) l o p q
  simp only[Array.toArray_toList] at c g
  simp [execOp,b.eval i,b.eval j,g,run_eql_struct,c]) k
def dA {S:Nat→Prop}{L:List HP}{h:BB}{t T b o sz:Nat}{ag:Bool}{cs vs:List Value}(q:CK C h) (s:St S L h) (l:Fr n a m) (u:CE m X=some (.pointer (some ⟨b,o,none⟩))) (v:Bx b T cs∈L) (x:(cs.drop o).take sz=vs) (y:Nat.beq vs.length sz=true) (z:Hd P t sz ag=true) (A:(ag||Nat.beq sz 1)=true) (hd:Nat.blt d n.1=true)
  (k:∀a,Fr n a ((d,if ag then .agg vs.toArray else vs.headD undef)::m)→wpQuiet P ops C Q rest a):wpQuiet P ops C Q (⟨some d,.load t X,ty,pos,af,none⟩::rest) a:=by
 refine Fo l hd (λw B=>?_) k
 obtain⟨F,c,i⟩:=s.get v
 have D:(Bx b T cs).holds S F w.heap:=⟨c.1,(q w B b (i b ((c.1 b).2 rfl)).1).trans c.2⟩
 have g:=iX y
 have:=K0 (P:=P) (w:=w) (S:=λ_=>True) (p:= .pointer (some ⟨b,o,none⟩)) (cs:=vs) (sz:=sz) (ag:=ag) (t:=t) ⟨⟨b,o,none⟩,rfl,rfl,trivial,λj G=>by
  rw[Bx.cell D,←x,kP (by omega),lD]⟩ g z (λe=>by subst e;simpa using A)
 simp [execOp,l.eval u,this]
end
end Go.Proofs.YtibidnaedddfdaaGreat
