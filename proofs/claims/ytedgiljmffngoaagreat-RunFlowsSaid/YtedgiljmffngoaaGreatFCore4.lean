import Derived.Test.YtedgiljmffngoaaGreatFCore3
import Derived.Great.BuildSlice
namespace Go.Proofs.YtedgiljmffngoaaGreat
set_option linter.all false
open Go.RowKit
def Cx (P:Program) (t:TypeId):Option (List Value):=((P.info? t).bind (·.zero)).map (·.cells.toList)
def Bx (b:Nat) (T:TypeId) (cs:List Value):HP where
 holds:=λ_ F h=>(∀c,F c↔c=b)∧h[b]? =some (.cells cs.toArray T (0,0))
 loc:=λ⟨a,d⟩ _ e=>⟨a,(e _ (.inr ((a _).2 rfl))).trans d⟩
def Bx.cell {b T cs S F h}(k:(Bx b T cs).holds S F h) (j:Nat):Gk h ⟨b,j,none⟩=cs[j]? :=by simp [Gk,k.2]
def Ed (h:AT) (o:Obj) (b:Nat) (a:b<h.size):(h.push o)[b]? =h[b]? :=by rw[Array.getElem?_push,gL (by omega)]
def Jr (h:AT) (o:Obj):(h.push o)[h.size]? =some o:=by simp
def Wd.alloc {B h w}(k:Wd B h w) (o:Obj):Wd B (h.push o) (w.alloc o):=⟨by show(w.heap.push o)=_;rw[k.heap],k.os,k.tape,k.out⟩
def St.push {S L h}(c:St S L h) (T:TypeId) (cs:List Value):St S (Bx h.size T cs::L) (h.push (.cells cs.toArray T))∧B6 S h S (h.push (.cells cs.toArray T)):=
 c.add (by simp) (λb a=>Ed _ _ _ a) ⟨λb=>b=h.size,⟨λ_=>iM,Jr _ _⟩,λb a=>by subst a;simp⟩
section
variable {P:Program}{ops:Array Oper}{Q:Exit→Act→World→Prop}{n:FN}{a:Act}{m:List (Nat×Value)}{rest:List Oper}
variable {d:Nat}{ty:TypeId}{pos:String}{af:Array Edge}{X:Operand}{B w:World}{h:AT}{S:Nat→Prop}{L:List HP}
def X1 {T:TypeId}{v:Value}{cs:List Value}(g:Fr n a m) (j:BU m X=some v) (l:v.cells=cs.toArray) (hd:Nat.blt d n.1=true) (i:Wd B h w) (o:St S L h)
  (k:∀b a w h',Fr n a ((d,.pointer (some ⟨b,0,none⟩))::m)→Wd B h' w→St S (Bx b T cs::L) h'→B6 S h S h'→wpList P ops Q rest a w):
  wpList P ops Q (⟨some d,.box T X,ty,pos,af,none⟩::rest) a w:=by
 refine wpList_plain rfl λK p=>?_;unfold Oper.wp;have c:(execOp a.eval ⟨some d,.box T X,ty,pos,af,none⟩).run P w= .ok (.value (.pointer (some ⟨w.heap.size,0,none⟩))) (w.alloc (.cells cs.toArray T)):=by
  simp [execOp,g.eval j,Instr.box,newVar,newRow,l]
 rw[c];obtain⟨q,s⟩:=o.push T cs;exact p _ _ (k _ _ _ _ (g.put hd _) (i.alloc _) (by rw[i.heap];exact q) s)
def Ys {T:TypeId}{v:Value}{α}{r:BB α}{x:α}(y:Fr n a m) (z:BU m X=some v) (A:Rd S h r v x) (C:r.ag=false→r.sz=1) (hd:Nat.blt d n.1=true) (D:Wd B h w) (G:St S L h)
  (k:∀p a w S' h',Fr n a ((d,p)::m)→Wd B h' w→St S' L h'→B6 S h S' h'→Pt S' h' r p x→wpList P ops Q rest a w):
  wpList P ops Q (⟨some d,.box T X,ty,pos,af,none⟩::rest) a w:=by
 obtain⟨cs,H,g⟩:=A;have I:v.cells=cs.toArray:=by
  subst H;unfold BB.val;cases i:r.ag with
  |true=>rfl
  |false=>
   have t:=r.len g;rw[C i] at t
   match cs,t,g with
   |[c],_,g=>
    have J:=r.one g c (by simp);cases c<;>first|rfl|(simp [Value.oneCell'] at J)
 refine X1 y z I hd D G λb a w h' l o q e=>?_;obtain⟨F,u,M,K,s⟩:=q.pub .head;refine k _ a w _ h' l o K (e.trans s) ⟨cs,⟨⟨b,0,none⟩,rfl,rfl,.inr ((u.1 _).2 rfl),λj U=>?_⟩,r.mono (r.mono g e.sub e.same) s.sub s.same⟩;simp only[hM];exact Bx.cell u j
def fE {T:TypeId}{cs:List Value}(o:Fr n a m) (c:Cx P T=some cs) (hd:Nat.blt d n.1=true) (l:Wd B h w) (p:St S L h)
  (k:∀b a w h',Fr n a ((d,.pointer (some ⟨b,0,none⟩))::m)→Wd B h' w→St S (Bx b T cs::L) h'→B6 S h S h'→wpList P ops Q rest a w):
  wpList P ops Q (⟨some d,.alloc T,ty,pos,af,none⟩::rest) a w:=by
 refine wpList_plain rfl λK q=>?_;unfold Oper.wp;unfold Cx at c;simp only[iH,iZ] at c;obtain⟨z,⟨i,s,c⟩,j⟩:=c;have t:z.cells=cs.toArray:=by rw[←j]
 have g:(execOp a.eval ⟨some d,.alloc T,ty,pos,af,none⟩).run P w= .ok (.value (.pointer (some ⟨w.heap.size,0,none⟩))) (w.alloc (.cells cs.toArray T)):=by
  simp [execOp,Instr.alloc,newVar,newRow,zeroValue,typeInfo,s,c,t]
 rw[g];obtain⟨u,v⟩:=p.push T cs;exact q _ _ (k _ _ _ _ (o.put hd _) (l.alloc _) (by rw[l.heap];exact u) v)
def G7 (cs:List Value) (o:Nat) (vs:List Value):List Value:=cs.take o++vs++cs.drop (o+vs.length)
def Ou (w:World) (g:Nat) (cur c':Array Value) (T:TypeId) (a:w.heap[g]? =some (.cells cur T (0,0))):
  ∃h',(w.setRow g c').heap=h'∧h'.size=w.heap.size∧h'[g]? =some (.cells c' T (0,0))∧∀b,b≠g→h'[b]? =w.heap[b]? :=by
 refine⟨_,rfl,?_,setRow_heap w g cur _ T _ a,λb c=>setRow_other w g b _ c⟩;simp [World.setRow]
def fA {T d:TypeId}{Y:Operand}{b o:Nat}{v:Value}{cs vs cs':List Value}{A:List HP}{sz:Nat}{ag:Bool}(t:Fr n a m) (I:BU m X=some (.pointer (some ⟨b,o,none⟩))) (J:BU m Y=some v) (U:v.cells=vs.toArray) (V:∀u∈vs,u.oneCell'=true)
  (W:Ie P T sz ag=true) (x:vs.length=sz) (g:Nat.ble (o+sz) cs.length=true) (Z:G7 cs o vs=cs') (j:Wd B h w) (C:St S L h) (r:Lb L (Bx b d cs) (Bx b d cs') A)
  (k:∀a w h',Fr n a m→Wd B h' w→St S A h'→B6 S h S h'→wpList P ops Q rest a w):
  wpList P ops Q (⟨none,.store T X Y,ty,pos,af,none⟩::rest) a w:=by
 refine wpList_plain rfl λK hK=>?_;unfold Oper.wp;obtain⟨M,p,_⟩:=r.pick;obtain⟨F,g1,g2,_⟩:=Sp.pick p C.2;have D:w.heap[b]? =some (.cells cs.toArray d (0,0)):=by rw[j.heap];exact g1.2
 obtain⟨i,dd,hi,hd,y,aa⟩:=Ot W;have l:=run_storeCells_at P b o d vs 0 cs.toArray w D (by simp;have:=jE g;omega) V;have q:(List.take (o+0) cs.toArray.toList++vs++List.drop (o+0+vs.length) cs.toArray.toList)=cs':=by rw[←Z];simp [G7]
 rw[q] at l;have s:(execOp a.eval ⟨none,.store T X Y,ty,pos,af,none⟩).run P w= .ok .skip (w.setRow b cs'.toArray):=by
  simp [execOp,t.eval I,t.eval J,Instr.storeAt,Instr.sureAddr,storeVar,U,PJ hi,y,x,l]
 rw[s];obtain⟨h',e1,e2,e3,G⟩:=Ou w b cs.toArray cs'.toArray d D;rw[j.heap] at e2 G;obtain⟨u1,u2⟩:=C.upd (h':=h') r (by omega) λF H k2=>⟨F,⟨H.1,e3⟩,λc z=> .inl z,λc _ z=>G c λe=>z ((H.1 c).2 e)⟩
 exact hK _ _ (k _ _ h' t ⟨e1,j.os,j.tape,j.out⟩ u1 u2)
end
def Ux (vs:List Value):∀(cs:List Value) (o k:Nat),o+k+vs.length≤cs.length→
  (vs.zipIdx k).foldl (λcs (p:Value×Nat)=>cs.set (o+p.2) p.1) cs=cs.take (o+k)++vs++cs.drop (o+k+vs.length):=by
 induction vs with
 |nil=>intro cs o k h;simp
 |cons v vs b=>
  intro cs o k h;simp only[jA] at h;simp only[List.zipIdx_cons,List.foldl_cons];rw[b (cs.set (o+k) v) o (k+1) (by simp;omega)];have a:o+k<cs.length:=by omega
  have c:o+(k+1)=(o+k)+1:=by omega
  have d:o+k+1+vs.length=o+k+(vs.length+1):=by omega
  rw[c,d,List.drop_set_of_lt (by omega),jA,jP (by simpa using a),List.getElem_set_self,List.take_set_of_le (by omega)];simp
def QU (f:Nat→Nat):∀(l:List (Value×Nat)) (cs:List Value),
  l.foldl (λ(cs:Array Value) (p:Value×Nat)=>cs.setIfInBounds (f p.2) p.1) cs.toArray=(l.foldl (λcs (p:Value×Nat)=>cs.set (f p.2) p.1) cs).toArray
 |[],cs=>rfl
 |p::l,cs=>by
  simp only[List.foldl_cons];rw[List.setIfInBounds_toArray,QU f l]
def Ln (a:List (Nat×Nat)):List Value→List (Nat×Value)→Option (List Value)
 |cs,[]=>some cs
 |cs,(i,v)::r=>match a[i]? with
  |none=>none
  |some (off,sz)=>cond (Nat.beq v.cells.toList.length sz&&Nat.ble (off+sz) cs.length) (Ln a (G7 cs off v.cells.toList) r) none
def Md (a:List (Nat×Nat)):∀(pv:List (Nat×Value)) (cs cs':List Value),Ln a cs pv=some cs'→Instr.fill (a.toArray[·]?) cs.toArray pv=some cs'.toArray
 |[],cs,cs',h=>by simp [Ln] at h;subst h;rfl
 |(i,v)::r,cs,cs',h=>by
  simp only[Ln] at h;split at h
  ·cases h
  ·rename_i off sz g;cases b:(Nat.beq v.cells.toList.length sz&&Nat.ble (off+sz) cs.length) with
   |false=>rw[b] at h;cases h
   |true=>
    rw[b] at h;simp only[iC] at h;simp only[gG] at b;have j:v.cells.size=sz:=by simpa using gH b.1
    have l:=jE b.2;have k:=Md a r _ cs' h;have d:a.toArray[i]? =some (off,sz):=by simpa using g
    simp only[Instr.fill,d];rw[gL (by simp [j];omega)];have c:v.cells.zipIdx.foldl (λ(cs:Array Value) (p:Value×Nat)=>cs.setIfInBounds (off+p.2) p.1) cs.toArray=(G7 cs off v.cells.toList).toArray:=by
     rw[←Array.foldl_toList,Array.toList_zipIdx,QU (off+ ·),Ux _ _ _ _ (by simp;omega)];simp [G7]
    exact(gB (λx=>Instr.fill (a.toArray[·]?) x r) c).trans k
def ST (P:Program) (T:TypeId):Option (List (Nat×Nat)×List Value):=
 match P.underlying T,Cx P T with
 |some (.struct a),some z=>(a.toList.mapM (λf=>(P.info? f.type).map λi=>(f.offset,i.size))).map λb=>(b,z)
 |_,_=>none
def V8 {P:Program}{T:TypeId}{pl z pv cs}(h:ST P T=some (pl,z)) (g:Ln pl z pv=some cs):P.built T pv=some cs.toArray:=by
 unfold ST at h;split at h
 ·rename_i n j k a;simp only[iH,jF] at h;obtain⟨b,l,rfl,rfl⟩:=h;unfold Cx at a;simp only[iH,iZ] at a;obtain⟨o,⟨i,m,c⟩,d⟩:=a;simp only[Program.built,m,k,c,l];have:=Md b pv j cs g;rw[←d] at this;simpa using this
 ·cases h
def LN:Value→Nat
 | .int _ _=>1| .bool _=>2| .string _=>3|_=>0
def Wm:Value→Value→Bool
 | .int _ a,.int _ b=>decide (a=b)
 | .bool a,.bool b=>a==b
 | .string a,.string b=>a==b
 |_,_=>false
def Uz:List Value→List Value→Bool
 |[],_=>true
 |_::_,[]=>true
 |a::r,b::s=>Wm a b&&Uz r s
section
variable {P:Program}{ops:Array Oper}{C:World→Prop}{Q:Act→Prop}{n:FN}{a:Act}{m:List (Nat×Value)}{rest:List Oper}
variable {d:Nat}{ty:TypeId}{pos:String}{af:Array Edge}{X Y:Operand}
def W0 (m:List (Nat×Value)) (p:Nat×Operand):Option (Nat×Value):=(BU m p.2).map λv=>(p.1,v)
def cE {T:TypeId}{b:Array (Nat×Operand)}{pl z pv cs}(o:Fr n a m) (s:ST P T=some (pl,z)) (c:b.toList.mapM (W0 m)=some pv) (q:Ln pl z pv=some cs) (hd:Nat.blt d n.1=true)
  (k:∀a,Fr n a ((d,.agg cs.toArray)::m)→wpQuiet P ops C Q rest a):wpQuiet P ops C Q (⟨some d,.build T b,ty,pos,af,none⟩::rest) a:=by
 refine Cu o hd (λw _=>?_) k;have i:(b.map λ(p:Nat×Operand)=>(p.1,a.eval p.2)).toList=pv:=by
  obtain⟨l⟩:=b;simp only at c;simp only[List.map_toArray];clear q k
  induction l generalizing pv with
  |nil=>simp at c;subst c;rfl
  |cons x l t=>
   simp only[jO,kC,iZ,W0,iH] at c;obtain⟨y,⟨v,u,rfl⟩,A,j,g⟩:=c;simp only[Option.pure_def,hY] at g;subst g;simp only[iF,o.eval u,t j]
 have:=run_build (P:=P) w T (b.map λ(p:Nat×Operand)=>(p.1,a.eval p.2)) cs.toArray (by rw[i];exact V8 s q);simp only[execOp,Sem.run_bind,this];rfl
def W6 (P:Program) (T:TypeId):Option (List Nat):=
 if P.stoodInHeld T||P.eqGuardType P.depth T then none else
 match P.underlying T with
 |some (.struct a)=>a.toList.zipIdx.mapM λ(f,i)=>
  if f.name== "_" || !Nat.beq f.offset i then none else
  match P.underlying f.type with
  |some (.int _)=>some 1
  |some .bool=>some 2
  |some .string=>some 3
  |_=>none
 |_=>none
def Ox {w:World}:∀(D:List Field) (t:List Nat) (i d:Nat) (xs c:List Value),
  (D.zipIdx i).mapM (λ(p:Field×Nat)=>if p.1.name== "_" || !Nat.beq p.1.offset p.2 then none else
   match P.underlying p.1.type with
   |some (.int _)=>some 1
   |some .bool=>some 2
   |some .string=>some 3
   |_=>none)=some t→(xs.drop i).map LN=t→(c.drop i).map LN=t→(∀(j:Nat) (G:IntKind) (n1:Int) (k2:IntKind) (n2:Int),xs[j]? =some (Value.int G n1)→c[j]? =some (Value.int k2 n2)→G=k2)→
  (Op.eqFields (d+1) xs.toArray c.toArray D).run P w= .ok (Uz (xs.drop i) (c.drop i)) w
 |[],t,i,d,xs,c,h,l,m,H=>by
  simp at h;subst h;have h1:xs.drop i=[]:=by simpa using l
  rw[h1];rfl
 |f::D,t,i,d,xs,c,h,l,m,H=>by
  simp only[List.zipIdx_cons,jO,kC,iZ] at h;obtain⟨G,a,I,u,v⟩:=h;simp only[Option.pure_def,hY] at v;subst v;split at a
  ·cases a
  ·rename_i g;simp only[gT,not_or,Bool.not_eq_true,gS,Bool.not_eq_false] at g;obtain⟨J,K⟩:=g;have A:=gH K;have M:f.name≠ "_" :=by simpa using J
   cases n:xs.drop i with
   |nil=>rw[n] at l;simp at l
   |cons x xr=>
   cases o:c.drop i with
   |nil=>rw[o] at m;simp at m
   |cons y yr=>
   rw[n] at l;rw[o] at m;simp only[iF,List.cons.injEq] at l m;have q:xs[i]? =some x:=by have:=gB (·[0]?) n;simpa using this
   have s:c[i]? =some y:=by have:=gB (·[0]?) o;simpa using this
   have B:xs.drop (i+1)=xr:=by have:=gB List.tail n;simpa [List.tail_drop] using this
   have C:c.drop (i+1)=yr:=by have:=gB List.tail o;simpa [List.tail_drop] using this
   have F:=Ox (w:=w) D I (i+1) d xs c u (by rw[B];exact l.2) (by rw[C];exact m.2) H;rw[B,C] at F;have b:∀Q,P.underlying f.type=some Q→XD Q=false→∀(U:List Value) z,U[i]? =some z→(part f.type U.toArray f.offset).run P w= .ok z w:=by
    intro Q V b U z hz;simp [part,RS V,b,A,hz]
   simp only[Op.eqFields,gO M,Sem.run_bind,Uz];split at a
   ·rename_i kk k;simp only[hY] at a;subst a;rw[b _ k rfl xs x q];simp only[Result.andThen_ok];rw[b _ k rfl c y s];simp only[Result.andThen_ok];cases x<;>simp [LN] at l;cases y<;>simp [LN] at m;rename_i ka W kb X;have:=H i ka W kb X q s;subst this;rw[run_equalIn_int w d f.type ka kk W X k];simp only[Result.andThen_ok,Wm,Sem.run_ite,Sem.run_pure];rw[P5];cases decide (W=X)<;>simp [F]
   ·rename_i k;simp only[hY] at a;subst a;rw[b _ k rfl xs x q];simp only[Result.andThen_ok];rw[b _ k rfl c y s];simp only[Result.andThen_ok];cases x<;>simp [LN] at l;cases y<;>simp [LN] at m;rw[run_equalIn_bool' w d f.type _ _ k];simp only[Result.andThen_ok,Wm,Sem.run_ite,Sem.run_pure];rename_i Y Z;cases (Y==Z)<;>simp [F]
   ·rename_i k;simp only[hY] at a;subst a;rw[b _ k rfl xs x q];simp only[Result.andThen_ok];rw[b _ k rfl c y s];simp only[Result.andThen_ok];cases x<;>simp [LN] at l;cases y<;>simp [LN] at m;rw[run_equalIn_string w d f.type _ _ k];simp only[Result.andThen_ok,Wm,Sem.run_ite,Sem.run_pure];rename_i Y Z;rw[beq_toListBytes];cases (Y.toList==Z.toList)<;>simp [F]
   ·cases a
def Ow:List Value→List Value→Bool
 | .int k _::r,.int l _::s=>decide (k=l)&&Ow r s
 |_::r,_::s=>Ow r s
 |_,_=>true
def QH:∀(xs p:List Value),Ow xs p=true→∀(j:Nat) (c:IntKind) (m:Int) (d:IntKind) (n:Int),xs[j]? =some (Value.int c m)→p[j]? =some (Value.int d n)→c=d
 |[],_,_,j,_,_,_,_,h,_=>by simp at h
 |_::_,[],_,j,_,_,_,_,_,h=>by simp at h
 |x::r,y::s,h,0,c,m,d,n,g,i=>by
  simp only[jB,hY] at g i;subst g;subst i;simp only[Ow,gG,hO] at h;exact h.1
 |x::r,y::s,h,j+1,c,m,d,n,g,i=>by
  simp only[iX] at g i;refine QH r s ?_ j c m d n g i;unfold Ow at h;split at h
  ·rename_i k l;simp only[gG] at h;injection k with k a;injection l with l b
   subst a;subst b;exact h.2
  ·rename_i k l;injection k with k a;injection l with l b
   subst a;subst b;exact h
  ·rename_i q o;exact absurd rfl (o _ _ _ _ rfl)
def Sy {T:TypeId}{c:List Nat}{xs a:List Value}{w:World}(h:W6 P T=some c) (k:xs.map LN=c) (l:a.map LN=c) (m:Ow xs a=true):
  (Op.equalIn 10000 T (.agg xs.toArray) (.agg a.toArray)).run P w= .ok (Uz xs a) w∧∀(d:BinOp) (x y:Operand),(eqGuard d T x y (.agg xs.toArray) (.agg a.toArray)).run P w= .ok () w:=by
 unfold W6 at h;split at h
 ·cases h
 ·rename_i g;simp only[gT,not_or,Bool.not_eq_true] at g;split at h
  ·rename_i i j;refine⟨?_,λd x y=>run_eqGuard_agg w d T x y _ _ g.2⟩;have b:P.fieldsOf T=i:=by simp [Program.fieldsOf,j]
   have:=run_equalIn_struct (P:=P) w 9999 T xs.toArray a.toArray (by rw[b];exact j) g.1;rw[this,b];exact Ox i.toList c 0 9998 xs a h (by simpa using k) (by simpa using l) (QH xs a m)
  ·cases h
def bN {T t2:TypeId}{ks xs ys}(b:Fr n a m) (i:BU m X=some (.agg xs)) (j:BU m Y=some (.agg ys)) (l:W6 P T=some ks) (o:xs.toList.map LN=ks) (p:ys.toList.map LN=ks) (q:Ow xs.toList ys.toList=true) (hd:Nat.blt d n.1=true)
  (k:∀a,Fr n a ((d,.bool (!Uz xs.toList ys.toList))::m)→wpQuiet P ops C Q rest a):wpQuiet P ops C Q (⟨some d,.binOp .neq T X Y t2,ty,pos,af,none⟩::rest) a:=
 Cu b hd (λw _=>by
  obtain⟨c,g⟩:=Sy (w:=w) l o p q;simp only[Array.toArray_toList] at c g;simp [execOp,b.eval i,b.eval j,g,run_neq_struct,c]) k
def bW {S:Nat→Prop}{L:List HP}{h:AT}{t T b o sz:Nat}{ag:Bool}{cs vs:List Value}(q:CK C h) (s:St S L h) (l:Fr n a m) (u:BU m X=some (.pointer (some ⟨b,o,none⟩))) (v:Bx b T cs∈L) (x:(cs.drop o).take sz=vs) (y:Nat.beq vs.length sz=true) (z:Ie P t sz ag=true) (A:(ag||Nat.beq sz 1)=true) (hd:Nat.blt d n.1=true)
  (k:∀a,Fr n a ((d,if ag then .agg vs.toArray else vs.headD undef)::m)→wpQuiet P ops C Q rest a):wpQuiet P ops C Q (⟨some d,.load t X,ty,pos,af,none⟩::rest) a:=by
 refine Cu l hd (λw B=>?_) k;obtain⟨F,c,i⟩:=s.get v;have D:(Bx b T cs).holds S F w.heap:=⟨c.1,(q w B b (i b ((c.1 b).2 rfl)).1).trans c.2⟩
 have g:=gH y;have:=Ma (P:=P) (w:=w) (S:=λ_=>True) (p:= .pointer (some ⟨b,o,none⟩)) (cs:=vs) (sz:=sz) (ag:=ag) (t:=t) ⟨⟨b,o,none⟩,rfl,rfl,trivial,λj G=>by
  rw[Bx.cell D,←x,iG (by omega),jN]⟩ g z (λe=>by subst e;simpa using A)
 simp [execOp,l.eval u,this]
end
end Go.Proofs.YtedgiljmffngoaaGreat
