import Derived.Test.YtblcgjadhemlbaaGreatVCore3
import Derived.Great.BuildSlice
namespace Go.Proofs.YtblcgjadhemlbaaGreat
set_option linter.all false
open Go.RowKit
def E8 (P:Program) (t:TypeId):Option (List Value):=((P.info? t).bind (·.zero)).map (·.cells.toList)
def Bx (b:Nat) (T:TypeId) (cs:List Value):HP where
 holds:=λ_ F h=>(∀c,F c↔c=b)∧h[b]? =some (.cells cs.toArray T (0,0))
 loc:=λ⟨a,d⟩ _ e=>⟨a,(e _ (.inr ((a _).2 rfl))).trans d⟩
def Bx.cell {b T cs S F h}(k:(Bx b T cs).holds S F h) (j:Nat):Ip h ⟨b,j,none⟩=cs[j]? :=by simp [Ip,k.2]
def IL (h:BL) (o:Obj) (b:Nat) (a:b<h.size):(h.push o)[b]? =h[b]? :=by rw[Array.getElem?_push,nB (by omega)]
def LD (h:BL) (o:Obj):(h.push o)[h.size]? =some o:=by simp
def Wd.alloc {B h w}(k:Wd B h w) (o:Obj):Wd B (h.push o) (w.alloc o):=⟨by show(w.heap.push o)=_;rw[k.heap],k.os,k.tape,k.out⟩
def St.push {S L h}(c:St S L h) (T:TypeId) (cs:List Value):St S (Bx h.size T cs::L) (h.push (.cells cs.toArray T))∧Cv S h S (h.push (.cells cs.toArray T)):=
 c.add (by simp) (λb a=>IL _ _ _ a) ⟨λb=>b=h.size,⟨λ_=>Iff.rfl,LD _ _⟩,λb a=>by subst a;simp⟩
section
variable {P:Program}{ops:Array Oper}{Q:Exit→Act→World→Prop}{n:FN}{a:Act}{m:List (Nat×Value)}{rest:List Oper}
variable {d:Nat}{ty:TypeId}{pos:String}{af:Array Edge}{X:Operand}{B w:World}{h:BL}{S:Nat→Prop}{L:List HP}
def aD {T:TypeId}{v:Value}{cs:List Value}(g:Fr n a m) (j:CQ m X=some v) (l:v.cells=cs.toArray) (hd:Nat.blt d n.1=true) (i:Wd B h w) (o:St S L h)
  (k:∀b a w h',Fr n a ((d,.pointer (some ⟨b,0,none⟩))::m)→Wd B h' w→St S (Bx b T cs::L) h'→Cv S h S h'→wpList P ops Q rest a w):
  wpList P ops Q (⟨some d,.box T X,ty,pos,af,none⟩::rest) a w:=by
 refine wpList_plain rfl λK p=>?_
 unfold Oper.wp
 have c:(execOp a.eval ⟨some d,.box T X,ty,pos,af,none⟩).run P w= .ok (.value (.pointer (some ⟨w.heap.size,0,none⟩))) (w.alloc (.cells cs.toArray T)):=by
  simp [execOp,g.eval j,Instr.box,newVar,newRow,l]
 rw[c]
 obtain⟨q,s⟩:=o.push T cs
 exact p _ _ (k _ _ _ _ (g.put hd _) (i.alloc _) (by rw[i.heap];exact q) s)
def cE {T:TypeId}{v:Value}{α}{r:BW α}{x:α}(y:Fr n a m) (z:CQ m X=some v) (A:Rd S h r v x) (C:r.ag=false→r.sz=1) (hd:Nat.blt d n.1=true) (D:Wd B h w) (G:St S L h)
  (k:∀p a w S' h',Fr n a ((d,p)::m)→Wd B h' w→St S' L h'→Cv S h S' h'→Pt S' h' r p x→wpList P ops Q rest a w):
  wpList P ops Q (⟨some d,.box T X,ty,pos,af,none⟩::rest) a w:=by
 obtain⟨cs,H,g⟩:=A
 have I:v.cells=cs.toArray:=by
  subst H
  unfold BW.val
  cases i:r.ag with
  |true=>rfl
  |false=>
   have t:=r.len g
   rw[C i] at t
   match cs,t,g with
   |[c],_,g=>
    have J:=r.one g c (by simp)
    cases c<;>first|rfl|(simp [Value.oneCell'] at J)
 refine aD y z I hd D G λb a w h' l o q e=>?_
 obtain⟨F,u,M,K,s⟩:=q.pub .head
 refine k _ a w _ h' l o K (e.trans s) ⟨cs,⟨⟨b,0,none⟩,rfl,rfl,.inr ((u.1 _).2 rfl),λj U=>?_⟩,r.mono (r.mono g e.sub e.same) s.sub s.same⟩
 simp only[oK]
 exact Bx.cell u j
def lO {T:TypeId}{cs:List Value}(o:Fr n a m) (c:E8 P T=some cs) (hd:Nat.blt d n.1=true) (l:Wd B h w) (p:St S L h)
  (k:∀b a w h',Fr n a ((d,.pointer (some ⟨b,0,none⟩))::m)→Wd B h' w→St S (Bx b T cs::L) h'→Cv S h S h'→wpList P ops Q rest a w):
  wpList P ops Q (⟨some d,.alloc T,ty,pos,af,none⟩::rest) a w:=by
 refine wpList_plain rfl λK q=>?_
 unfold Oper.wp
 unfold E8 at c
 simp only[pE,pV] at c
 obtain⟨z,⟨i,s,c⟩,j⟩:=c
 have t:z.cells=cs.toArray:=by rw[←j]
 have g:(execOp a.eval ⟨some d,.alloc T,ty,pos,af,none⟩).run P w= .ok (.value (.pointer (some ⟨w.heap.size,0,none⟩))) (w.alloc (.cells cs.toArray T)):=by
  simp [execOp,Instr.alloc,newVar,newRow,zeroValue,typeInfo,s,c,t]
 rw[g]
 obtain⟨u,v⟩:=p.push T cs
 exact q _ _ (k _ _ _ _ (o.put hd _) (l.alloc _) (by rw[l.heap];exact u) v)
def IH (cs:List Value) (o:Nat) (vs:List Value):List Value:=cs.take o++vs++cs.drop (o+vs.length)
def Pb (w:World) (g:Nat) (cur c':Array Value) (T:TypeId) (a:w.heap[g]? =some (.cells cur T (0,0))):
  ∃h',(w.setRow g c').heap=h'∧h'.size=w.heap.size∧h'[g]? =some (.cells c' T (0,0))∧∀b,b≠g→h'[b]? =w.heap[b]? :=by
 refine⟨_,rfl,?_,setRow_heap w g cur _ T _ a,λb c=>setRow_other w g b _ c⟩
 simp [World.setRow]
def lL {T d:TypeId}{Y:Operand}{b o:Nat}{v:Value}{cs vs cs':List Value}{A:List HP}{sz:Nat}{ag:Bool}(t:Fr n a m) (I:CQ m X=some (.pointer (some ⟨b,o,none⟩))) (J:CQ m Y=some v) (U:v.cells=vs.toArray) (V:∀u∈vs,u.oneCell'=true)
  (W:Iz P T sz ag=true) (x:vs.length=sz) (g:Nat.ble (o+sz) cs.length=true) (Z:IH cs o vs=cs') (j:Wd B h w) (C:St S L h) (r:Ll L (Bx b d cs) (Bx b d cs') A)
  (k:∀a w h',Fr n a m→Wd B h' w→St S A h'→Cv S h S h'→wpList P ops Q rest a w):
  wpList P ops Q (⟨none,.store T X Y,ty,pos,af,none⟩::rest) a w:=by
 refine wpList_plain rfl λK hK=>?_
 unfold Oper.wp
 obtain⟨M,p,_⟩:=r.pick
 obtain⟨F,g1,g2,_⟩:=Sp.pick p C.2
 have D:w.heap[b]? =some (.cells cs.toArray d (0,0)):=by rw[j.heap];exact g1.2
 obtain⟨i,dd,hi,hd,y,aa⟩:=N6 W
 have l:=run_storeCells_at P b o d vs 0 cs.toArray w D (by simp;have:=qV g;omega) V
 have q:(List.take (o+0) cs.toArray.toList++vs++List.drop (o+0+vs.length) cs.toArray.toList)=cs':=by rw[←Z];simp [IH]
 rw[q] at l
 have s:(execOp a.eval ⟨none,.store T X Y,ty,pos,af,none⟩).run P w= .ok .skip (w.setRow b cs'.toArray):=by
  simp [execOp,t.eval I,t.eval J,Instr.storeAt,Instr.sureAddr,storeVar,U,On hi,y,x,l]
 rw[s]
 obtain⟨h',e1,e2,e3,G⟩:=Pb w b cs.toArray cs'.toArray d D
 rw[j.heap] at e2 G
 obtain⟨u1,u2⟩:=C.upd (h':=h') r (by omega) λF H k2=>⟨F,⟨H.1,e3⟩,λc z=> .inl z,λc _ z=>G c λe=>z ((H.1 c).2 e)⟩
 exact hK _ _ (k _ _ h' t ⟨e1,j.os,j.tape,j.out⟩ u1 u2)
end
def WH (vs:List Value):∀(cs:List Value) (o k:Nat),o+k+vs.length≤cs.length→
  (vs.zipIdx k).foldl (λcs (p:Value×Nat)=>cs.set (o+p.2) p.1) cs=cs.take (o+k)++vs++cs.drop (o+k+vs.length):=by
 induction vs with
 |nil=>intro cs o k h;simp
 |cons v vs b=>
  intro cs o k h
  simp only[qW] at h
  simp only[List.zipIdx_cons,List.foldl_cons]
  rw[b (cs.set (o+k) v) o (k+1) (by simp;omega)]
  have a:o+k<cs.length:=by omega
  have c:o+(k+1)=(o+k)+1:=by omega
  have d:o+k+1+vs.length=o+k+(vs.length+1):=by omega
  rw[c,d,List.drop_set_of_lt (by omega),qW,pO (by simpa using a),List.getElem_set_self,List.take_set_of_le (by omega)]
  simp
def QJ (f:Nat→Nat):∀(l:List (Value×Nat)) (cs:List Value),
  l.foldl (λ(cs:Array Value) (p:Value×Nat)=>cs.setIfInBounds (f p.2) p.1) cs.toArray=(l.foldl (λcs (p:Value×Nat)=>cs.set (f p.2) p.1) cs).toArray
 |[],cs=>rfl
 |p::l,cs=>by
  simp only[List.foldl_cons]
  rw[List.setIfInBounds_toArray,QJ f l]
def LX (a:List (Nat×Nat)):List Value→List (Nat×Value)→Option (List Value)
 |cs,[]=>some cs
 |cs,(i,v)::r=>match a[i]? with
  |none=>none
  |some (off,sz)=>cond (Nat.beq v.cells.toList.length sz&&Nat.ble (off+sz) cs.length) (LX a (IH cs off v.cells.toList) r) none
def MF (a:List (Nat×Nat)):∀(g:List (Nat×Value)) (cs cs':List Value),LX a cs g=some cs'→Instr.fill (a.toArray[·]?) cs.toArray g=some cs'.toArray
 |[],cs,cs',h=>by simp [LX] at h;subst h;rfl
 |(i,v)::r,cs,cs',h=>by
  simp only[LX] at h
  split at h
  ·cases h
  ·rename_i off sz j
   cases b:(Nat.beq v.cells.toList.length sz&&Nat.ble (off+sz) cs.length) with
   |false=>rw[b] at h;cases h
   |true=>
    rw[b] at h
    simp only[mW] at h
    simp only[mY] at b
    have k:v.cells.size=sz:=by simpa using nI b.1
    have m:=qV b.2
    have l:=MF a r _ cs' h
    have d:a.toArray[i]? =some (off,sz):=by simpa using j
    simp only[Instr.fill,d]
    rw[nB (by simp [k];omega)]
    have c:v.cells.zipIdx.foldl (λ(cs:Array Value) (p:Value×Nat)=>cs.setIfInBounds (off+p.2) p.1) cs.toArray=(IH cs off v.cells.toList).toArray:=by
     rw[←Array.foldl_toList,Array.toList_zipIdx,QJ (off+ ·),WH _ _ _ _ (by simp;omega)]
     simp [IH]
    exact(nF (λx=>Instr.fill (a.toArray[·]?) x r) c).trans l
def UF (P:Program) (T:TypeId):Option (List (Nat×Nat)×List Value):=
 match P.underlying T,E8 P T with
 |some (.struct a),some z=>(a.toList.mapM (λf=>(P.info? f.type).map λi=>(f.offset,i.size))).map λb=>(b,z)
 |_,_=>none
def YN {P:Program}{T:TypeId}{pl z pv cs}(h:UF P T=some (pl,z)) (g:LX pl z pv=some cs):P.built T pv=some cs.toArray:=by
 unfold UF at h
 split at h
 ·rename_i n j k a
  simp only[pE,qO] at h
  obtain⟨b,l,rfl,rfl⟩:=h
  unfold E8 at a
  simp only[pE,pV] at a
  obtain⟨o,⟨i,m,c⟩,d⟩:=a
  simp only[Program.built,m,k,c,l]
  have:=MF b pv j cs g
  rw[←d] at this
  simpa using this
 ·cases h
def LG:Value→Nat
 | .int _ _=>1| .bool _=>2| .string _=>3|_=>0
def ZO:Value→Value→Bool
 | .int _ a,.int _ b=>decide (a=b)
 | .bool a,.bool b=>a==b
 | .string a,.string b=>a==b
 |_,_=>false
def X7:List Value→List Value→Bool
 |[],_=>true
 |_::_,[]=>true
 |a::r,b::s=>ZO a b&&X7 r s
section
variable {P:Program}{ops:Array Oper}{C:World→Prop}{Q:Act→Prop}{n:FN}{a:Act}{m:List (Nat×Value)}{rest:List Oper}
variable {d:Nat}{ty:TypeId}{pos:String}{af:Array Edge}{X Y:Operand}
def Y2 (m:List (Nat×Value)) (p:Nat×Operand):Option (Nat×Value):=(CQ m p.2).map λv=>(p.1,v)
def gB {T:TypeId}{b:Array (Nat×Operand)}{pl z pv cs}(o:Fr n a m) (s:UF P T=some (pl,z)) (c:b.toList.mapM (Y2 m)=some pv) (q:LX pl z pv=some cs) (hd:Nat.blt d n.1=true)
  (k:∀a,Fr n a ((d,.agg cs.toArray)::m)→wpQuiet P ops C Q rest a):wpQuiet P ops C Q (⟨some d,.build T b,ty,pos,af,none⟩::rest) a:=by
 refine GP o hd (λw _=>?_) k
 have i:(b.map λ(p:Nat×Operand)=>(p.1,a.eval p.2)).toList=pv:=by
  obtain⟨l⟩:=b
  simp only at c
  simp only[List.map_toArray]
  clear q k
  induction l generalizing pv with
  |nil=>simp at c;subst c;rfl
  |cons x l t=>
   simp only[qN,rF,pV,Y2,pE] at c
   obtain⟨y,⟨v,u,rfl⟩,A,j,g⟩:=c
   simp only[Option.pure_def,oH] at g
   subst g
   simp only[oJ,o.eval u,t j]
 have:=run_build (P:=P) w T (b.map λ(p:Nat×Operand)=>(p.1,a.eval p.2)) cs.toArray (by rw[i];exact YN s q)
 simp only[execOp,Sem.run_bind,this]
 rfl
def cL (P:Program) (T:TypeId):Option (List Nat):=
 if P.stoodInHeld T||P.eqGuardType P.depth T then none else
 match P.underlying T with
 |some (.struct a)=>a.toList.zipIdx.mapM λ(f,i)=>
  if f.name== "_" || !Nat.beq f.offset i then none else
  match P.underlying f.type with
  |some (.int _)=>some 1
  |some .bool=>some 2
  |some .string=>some 3
  |_=>none
 |_=>none
def OB {w:World}:∀(D:List Field) (t:List Nat) (i d:Nat) (xs c:List Value),
  (D.zipIdx i).mapM (λ(p:Field×Nat)=>if p.1.name== "_" || !Nat.beq p.1.offset p.2 then none else
   match P.underlying p.1.type with
   |some (.int _)=>some 1
   |some .bool=>some 2
   |some .string=>some 3
   |_=>none)=some t→(xs.drop i).map LG=t→(c.drop i).map LG=t→(∀(j:Nat) (G:IntKind) (n1:Int) (k2:IntKind) (n2:Int),xs[j]? =some (Value.int G n1)→c[j]? =some (Value.int k2 n2)→G=k2)→
  (Op.eqFields (d+1) xs.toArray c.toArray D).run P w= .ok (X7 (xs.drop i) (c.drop i)) w
 |[],t,i,d,xs,c,h,l,m,H=>by
  simp at h;subst h
  have h1:xs.drop i=[]:=by simpa using l
  rw[h1];rfl
 |f::D,t,i,d,xs,c,h,l,m,H=>by
  simp only[List.zipIdx_cons,qN,rF,pV] at h
  obtain⟨G,a,I,u,v⟩:=h
  simp only[Option.pure_def,oH] at v
  subst v
  split at a
  ·cases a
  ·rename_i g
   simp only[nN,not_or,Bool.not_eq_true,nU,Bool.not_eq_false] at g
   obtain⟨J,K⟩:=g
   have A:=nI K
   have M:f.name≠ "_" :=by simpa using J
   cases n:xs.drop i with
   |nil=>rw[n] at l;simp at l
   |cons x xr=>
   cases o:c.drop i with
   |nil=>rw[o] at m;simp at m
   |cons y yr=>
   rw[n] at l;rw[o] at m
   simp only[oJ,List.cons.injEq] at l m
   have q:xs[i]? =some x:=by have:=nF (·[0]?) n;simpa using this
   have s:c[i]? =some y:=by have:=nF (·[0]?) o;simpa using this
   have B:xs.drop (i+1)=xr:=by have:=nF List.tail n;simpa [List.tail_drop] using this
   have C:c.drop (i+1)=yr:=by have:=nF List.tail o;simpa [List.tail_drop] using this
   have F:=OB (w:=w) D I (i+1) d xs c u (by rw[B];exact l.2) (by rw[C];exact m.2) H
   rw[B,C] at F
   have b:∀Q,P.underlying f.type=some Q→ZV Q=false→∀(U:List Value) z,U[i]? =some z→(part f.type U.toArray f.offset).run P w= .ok z w:=by
    intro Q V b U z hz
    simp [part,RE V,b,A,hz]
   simp only[Op.eqFields,nD M,Sem.run_bind,X7]
   split at a
   ·rename_i kk k
    simp only[oH] at a;subst a
    rw[b _ k rfl xs x q];simp only[Result.andThen_ok]
    rw[b _ k rfl c y s];simp only[Result.andThen_ok]
    cases x<;>simp [LG] at l
    cases y<;>simp [LG] at m
    rename_i ka W kb X
    have:=H i ka W kb X q s
    subst this
    rw[run_equalIn_int w d f.type ka kk W X k]
    simp only[Result.andThen_ok,ZO,Sem.run_ite,Sem.run_pure]
    rw[Pf]
    cases decide (W=X)<;>simp [F]
   ·rename_i k
    simp only[oH] at a;subst a
    rw[b _ k rfl xs x q];simp only[Result.andThen_ok]
    rw[b _ k rfl c y s];simp only[Result.andThen_ok]
    cases x<;>simp [LG] at l
    cases y<;>simp [LG] at m
    rw[run_equalIn_bool' w d f.type _ _ k]
    simp only[Result.andThen_ok,ZO,Sem.run_ite,Sem.run_pure]
    rename_i Y Z
    cases (Y==Z)<;>simp [F]
   ·rename_i k
    simp only[oH] at a;subst a
    rw[b _ k rfl xs x q];simp only[Result.andThen_ok]
    rw[b _ k rfl c y s];simp only[Result.andThen_ok]
    cases x<;>simp [LG] at l
    cases y<;>simp [LG] at m
    rw[run_equalIn_string w d f.type _ _ k]
    simp only[Result.andThen_ok,ZO,Sem.run_ite,Sem.run_pure]
    rename_i Y Z
    rw[beq_toListBytes]
    cases (Y.toList==Z.toList)<;>simp [F]
   ·cases a
def OA:List Value→List Value→Bool
 | .int k _::r,.int l _::s=>decide (k=l)&&OA r s
 |_::r,_::s=>OA r s
 |_,_=>true
def P5:∀(xs p:List Value),OA xs p=true→∀(j:Nat) (c:IntKind) (m:Int) (d:IntKind) (n:Int),xs[j]? =some (Value.int c m)→p[j]? =some (Value.int d n)→c=d
 |[],_,_,j,_,_,_,_,h,_=>by simp at h
 |_::_,[],_,j,_,_,_,_,_,h=>by simp at h
 |x::r,y::s,h,0,c,m,d,n,g,i=>by
  simp only[pW,oH] at g i
  subst g;subst i
  simp only[OA,mY,nR] at h
  exact h.1
 |x::r,y::s,h,j+1,c,m,d,n,g,i=>by
  simp only[pP] at g i
  refine P5 r s ?_ j c m d n g i
  unfold OA at h
  split at h
  ·rename_i k l
   simp only[mY] at h
   injection k with k a;injection l with l b
   subst a;subst b
   exact h.2
  ·rename_i k l
   injection k with k a;injection l with l b
   subst a;subst b
   exact h
  ·rename_i q o
   exact absurd rfl (o _ _ _ _ rfl)
def Tj {T:TypeId}{c:List Nat}{xs a:List Value}{w:World}(h:cL P T=some c) (k:xs.map LG=c) (l:a.map LG=c) (m:OA xs a=true):
  (Op.equalIn 10000 T (.agg xs.toArray) (.agg a.toArray)).run P w= .ok (X7 xs a) w∧∀(d:BinOp) (x y:Operand),(eqGuard d T x y (.agg xs.toArray) (.agg a.toArray)).run P w= .ok () w:=by
 unfold cL at h
 split at h
 ·cases h
 ·rename_i g
  simp only[nN,not_or,Bool.not_eq_true] at g
  split at h
  ·rename_i i j
   refine⟨?_,λd x y=>run_eqGuard_agg w d T x y _ _ g.2⟩
   have b:P.fieldsOf T=i:=by simp [Program.fieldsOf,j]
   have:=run_equalIn_struct (P:=P) w 9999 T xs.toArray a.toArray (by rw[b];exact j) g.1
   rw[this,b]
   exact OB i.toList c 0 9998 xs a h (by simpa using k) (by simpa using l) (P5 xs a m)
  ·cases h
def fI {T t2:TypeId}{ks xs ys}(b:Fr n a m) (i:CQ m X=some (.agg xs)) (j:CQ m Y=some (.agg ys)) (l:cL P T=some ks) (o:xs.toList.map LG=ks) (p:ys.toList.map LG=ks) (q:OA xs.toList ys.toList=true) (hd:Nat.blt d n.1=true)
  (k:∀a,Fr n a ((d,.bool (!X7 xs.toList ys.toList))::m)→wpQuiet P ops C Q rest a):wpQuiet P ops C Q (⟨some d,.binOp .neq T X Y t2,ty,pos,af,none⟩::rest) a:=
 GP b hd (λw _=>by
  obtain⟨c,g⟩:=Tj (w:=w) l o p q
  simp only[Array.toArray_toList] at c g
  simp [execOp,b.eval i,b.eval j,g,run_neq_struct,c]) k
def fR {S:Nat→Prop}{L:List HP}{h:BL}{t T b o sz:Nat}{ag:Bool}{cs vs:List Value}(q:CK C h) (s:St S L h) (l:Fr n a m) (u:CQ m X=some (.pointer (some ⟨b,o,none⟩))) (v:Bx b T cs∈L) (x:(cs.drop o).take sz=vs) (y:Nat.beq vs.length sz=true) (z:Iz P t sz ag=true) (A:(ag||Nat.beq sz 1)=true) (hd:Nat.blt d n.1=true)
  (k:∀a,Fr n a ((d,if ag then .agg vs.toArray else vs.headD undef)::m)→wpQuiet P ops C Q rest a):wpQuiet P ops C Q (⟨some d,.load t X,ty,pos,af,none⟩::rest) a:=by
 refine GP l hd (λw B=>?_) k
 obtain⟨F,c,i⟩:=s.get v
 have D:(Bx b T cs).holds S F w.heap:=⟨c.1,(q w B b (i b ((c.1 b).2 rfl)).1).trans c.2⟩
 have g:=nI y
 have:=MB (P:=P) (w:=w) (S:=λ_=>True) (p:= .pointer (some ⟨b,o,none⟩)) (cs:=vs) (sz:=sz) (ag:=ag) (t:=t) ⟨⟨b,o,none⟩,rfl,rfl,trivial,λj G=>by
  rw[Bx.cell D,←x,pA (by omega),qM]⟩ g z (λe=>by subst e;simpa using A)
 simp [execOp,l.eval u,this]
end
end Go.Proofs.YtblcgjadhemlbaaGreat
