import Derived.Test.YtibidnaedddfdaaGreatCCore3
import Derived.Great.BuildSlice
namespace Go.Proofs.YtibidnaedddfdaaGreat
set_option linter.unusedSimpArgs false
set_option linter.unusedVariables false
open Go.RowKit
def Cs (P:Program) (t:TypeId):Option (List Value):=((P.info? t).bind (·.zero)).map (·.cells.toList)
def Bx (b:Nat) (T:TypeId) (cs:List Value):HP where
 holds:=λ_ F h=>(∀c,F c↔c=b)∧h[b]? =some (.cells cs.toArray T (0,0))
 loc:=λ⟨k1,k2⟩ _ e=>⟨k1,(e _ (.inr ((k1 _).2 rfl))).trans k2⟩
theorem Bx.cell {b T cs S F h}(k:(Bx b T cs).holds S F h) (j:Nat):FO h ⟨b,j,none⟩=cs[j]? :=by simp [FO,k.2]
theorem ES (h:AX) (o:Obj) (b:Nat) (hb:b<h.size):(h.push o)[b]? =h[b]? :=by rw[Array.getElem?_push,if_neg (by omega)]
theorem HE (h:AX) (o:Obj):(h.push o)[h.size]? =some o:=by simp
theorem Wd.alloc {B h w}(k:Wd B h w) (o:Obj):Wd B (h.push o) (w.alloc o):=⟨by show(w.heap.push o)=_;rw[k.heap],k.os,k.tape,k.out⟩
theorem St.push {S L h}(hs:St S L h) (T:TypeId) (cs:List Value):St S (Bx h.size T cs::L) (h.push (.cells cs.toArray T))∧Bc S h S (h.push (.cells cs.toArray T)):=
 hs.add (by simp) (λb hb=>ES _ _ _ hb) ⟨λb=>b=h.size,⟨λ_=>Iff.rfl,HE _ _⟩,λb hb=>by subst hb;simp⟩
section
variable {P:Program}{ops:Array Oper}{Q:Exit→Act→World→Prop}{n:FN}{a:Act}{m:List (Nat×Value)}{rest:List Oper}
variable {d:Nat}{ty:TypeId}{pos:String}{af:Array Edge}{X:Operand}{B w:World}{h:AX}{S:Nat→Prop}{L:List HP}
theorem WZ {T:TypeId}{v:Value}{cs:List Value}(hf:Fr n a m) (hx:BP m X=some v) (hc:v.cells=cs.toArray) (hd:Nat.blt d n.1=true) (hw:Wd B h w) (hs:St S L h)
  (k:∀b a w h',Fr n a ((d,.pointer (some ⟨b,0,none⟩))::m)→Wd B h' w→St S (Bx b T cs::L) h'→Bc S h S h'→wpList P ops Q rest a w):
  wpList P ops Q (⟨some d,.box T X,ty,pos,af,none⟩::rest) a w:=by
 refine wpList_plain rfl λK hK=>?_
 unfold Oper.wp
 have hrun:(execOp a.eval ⟨some d,.box T X,ty,pos,af,none⟩).run P w= .ok (.value (.pointer (some ⟨w.heap.size,0,none⟩))) (w.alloc (.cells cs.toArray T)):=by
  simp [execOp,hf.eval hx,Instr.box,newVar,newRow,hc]
 rw[hrun]
 obtain⟨k1,k2⟩:=hs.push T cs
 exact hK _ _ (k _ _ _ _ (hf.put hd _) (hw.alloc _) (by rw[hw.heap];exact k1) k2)
theorem XL {T:TypeId}{v:Value}{α}{r:AV α}{x:α}(hf:Fr n a m) (hx:BP m X=some v) (hr:Rd S h r v x) (h1:r.ag=false→r.sz=1) (hd:Nat.blt d n.1=true) (hw:Wd B h w) (hs:St S L h)
  (k:∀p a w S' h',Fr n a ((d,p)::m)→Wd B h' w→St S' L h'→Bc S h S' h'→Pt S' h' r p x→wpList P ops Q rest a w):
  wpList P ops Q (⟨some d,.box T X,ty,pos,af,none⟩::rest) a w:=by
 obtain⟨cs,hv,hrd⟩:=hr
 have hc:v.cells=cs.toArray:=by
  subst hv
  unfold AV.val
  cases hag:r.ag with
  |true=>rfl
  |false=>
   have hl:=r.len hrd
   rw[h1 hag] at hl
   match cs,hl,hrd with
   |[c],_,hrd=>
    have ho:=r.one hrd c (by simp)
    cases c<;>first|rfl|(simp [Value.oneCell'] at ho)
 refine WZ hf hx hc hd hw hs λb a w h' hf' hw' hs' e=>?_
 obtain⟨F,h2,h3,h4,h5⟩:=hs'.pub .head
 refine k _ a w _ h' hf' hw' h4 (e.trans h5) ⟨cs,⟨⟨b,0,none⟩,rfl,rfl,.inr ((h2.1 _).2 rfl),λj hj=>?_⟩,r.mono (r.mono hrd e.sub e.same) h5.sub h5.same⟩
 simp only[Nat.zero_add]
 exact Bx.cell h2 j
theorem aI {T:TypeId}{cs:List Value}(hf:Fr n a m) (hz:Cs P T=some cs) (hd:Nat.blt d n.1=true) (hw:Wd B h w) (hs:St S L h)
  (k:∀b a w h',Fr n a ((d,.pointer (some ⟨b,0,none⟩))::m)→Wd B h' w→St S (Bx b T cs::L) h'→Bc S h S h'→wpList P ops Q rest a w):
  wpList P ops Q (⟨some d,.alloc T,ty,pos,af,none⟩::rest) a w:=by
 refine wpList_plain rfl λK hK=>?_
 unfold Oper.wp
 unfold Cs at hz
 simp only[Option.map_eq_some_iff,Option.bind_eq_some_iff] at hz
 obtain⟨z,⟨i,hi,hz⟩,hcs⟩:=hz
 have hc:z.cells=cs.toArray:=by rw[←hcs]
 have hrun:(execOp a.eval ⟨some d,.alloc T,ty,pos,af,none⟩).run P w= .ok (.value (.pointer (some ⟨w.heap.size,0,none⟩))) (w.alloc (.cells cs.toArray T)):=by
  simp [execOp,Instr.alloc,newVar,newRow,zeroValue,typeInfo,hi,hz,hc]
 rw[hrun]
 obtain⟨k1,k2⟩:=hs.push T cs
 exact hK _ _ (k _ _ _ _ (hf.put hd _) (hw.alloc _) (by rw[hw.heap];exact k1) k2)
def EX (cs:List Value) (o:Nat) (vs:List Value):List Value:=cs.take o++vs++cs.drop (o+vs.length)
theorem Lc (w:World) (g:Nat) (cur c':Array Value) (T:TypeId) (hg:w.heap[g]? =some (.cells cur T (0,0))):
  ∃h',(w.setRow g c').heap=h'∧h'.size=w.heap.size∧h'[g]? =some (.cells c' T (0,0))∧∀b,b≠g→h'[b]? =w.heap[b]? :=by
 refine⟨_,rfl,?_,setRow_heap w g cur _ T _ hg,λb hb=>setRow_other w g b _ hb⟩
 simp [World.setRow]
theorem aF {T T':TypeId}{Y:Operand}{b o:Nat}{v:Value}{cs vs cs':List Value}{L2:List HP}{sz:Nat}{ag:Bool}(hf:Fr n a m) (hx:BP m X=some (.pointer (some ⟨b,o,none⟩))) (hy:BP m Y=some v) (hv:v.cells=vs.toArray) (h1:∀u∈vs,u.oneCell'=true)
  (ht:GI P T sz ag=true) (hsz:vs.length=sz) (hfit:Nat.ble (o+sz) cs.length=true) (hp:EX cs o vs=cs') (hw:Wd B h w) (hs:St S L h) (r:IZ L (Bx b T' cs) (Bx b T' cs') L2)
  (k:∀a w h',Fr n a m→Wd B h' w→St S L2 h'→Bc S h S h'→wpList P ops Q rest a w):
  wpList P ops Q (⟨none,.store T X Y,ty,pos,af,none⟩::rest) a w:=by
 refine wpList_plain rfl λK hK=>?_
 unfold Oper.wp
 obtain⟨M,p,_⟩:=r.pick
 obtain⟨F,g1,g2,_⟩:=Sp.pick p hs.2
 have hg:w.heap[b]? =some (.cells cs.toArray T' (0,0)):=by rw[hw.heap];exact g1.2
 obtain⟨i,dd,hi,hd,hs',hag⟩:=LV ht
 have hst:=run_storeCells_at P b o T' vs 0 cs.toArray w hg (by simp;have:=Nat.le_of_ble_eq_true hfit;omega) h1
 have hcs':(List.take (o+0) cs.toArray.toList++vs++List.drop (o+0+vs.length) cs.toArray.toList)=cs':=by rw[←hp];simp [EX]
 rw[hcs'] at hst
 have hrun:(execOp a.eval ⟨none,.store T X Y,ty,pos,af,none⟩).run P w= .ok .skip (w.setRow b cs'.toArray):=by
  simp [execOp,hf.eval hx,hf.eval hy,Instr.storeAt,Instr.sureAddr,storeVar,hv,MI hi,hs',hsz,hst]
 rw[hrun]
 obtain⟨h',e1,e2,e3,e4⟩:=Lc w b cs.toArray cs'.toArray T' hg
 rw[hw.heap] at e2 e4
 obtain⟨u1,u2⟩:=hs.upd (h':=h') r (by omega) λF k1 k2=>⟨F,⟨k1.1,e3⟩,λc hc=> .inl hc,λc _ hc=>e4 c λe=>hc ((k1.1 c).2 e)⟩
 exact hK _ _ (k _ _ h' hf ⟨e1,hw.os,hw.tape,hw.out⟩ u1 u2)
end
theorem Sd (vs:List Value):∀(cs:List Value) (o k:Nat),o+k+vs.length≤cs.length→
  (vs.zipIdx k).foldl (λcs (p:Value×Nat)=>cs.set (o+p.2) p.1) cs=cs.take (o+k)++vs++cs.drop (o+k+vs.length):=by
 induction vs with
 |nil=>intro cs o k h;simp
 |cons v vs ih=>
  intro cs o k h
  simp only[List.length_cons] at h
  simp only[List.zipIdx_cons,List.foldl_cons]
  rw[ih (cs.set (o+k) v) o (k+1) (by simp;omega)]
  have hlt:o+k<cs.length:=by omega
  have e1:o+(k+1)=(o+k)+1:=by omega
  have e2:o+k+1+vs.length=o+k+(vs.length+1):=by omega
  rw[e1,e2,List.drop_set_of_lt (by omega),List.length_cons,List.take_succ_eq_append_getElem (by simpa using hlt),List.getElem_set_self,List.take_set_of_le (by omega)]
  simp
theorem NV (f:Nat→Nat):∀(l:List (Value×Nat)) (cs:List Value),
  l.foldl (λ(cs:Array Value) (p:Value×Nat)=>cs.setIfInBounds (f p.2) p.1) cs.toArray=(l.foldl (λcs (p:Value×Nat)=>cs.set (f p.2) p.1) cs).toArray
 |[],cs=>rfl
 |p::l,cs=>by
  simp only[List.foldl_cons]
  rw[List.setIfInBounds_toArray,NV f l]
def Io (pl:List (Nat×Nat)):List Value→List (Nat×Value)→Option (List Value)
 |cs,[]=>some cs
 |cs,(i,v)::r=>match pl[i]? with
  |none=>none
  |some (off,sz)=>cond (Nat.beq v.cells.toList.length sz&&Nat.ble (off+sz) cs.length) (Io pl (EX cs off v.cells.toList) r) none
theorem JN (pl:List (Nat×Nat)):∀(pv:List (Nat×Value)) (cs cs':List Value),Io pl cs pv=some cs'→Instr.fill (pl.toArray[·]?) cs.toArray pv=some cs'.toArray
 |[],cs,cs',h=>by simp [Io] at h;subst h;rfl
 |(i,v)::r,cs,cs',h=>by
  simp only[Io] at h
  split at h
  ·cases h
  ·rename_i off sz hi
   cases hc:(Nat.beq v.cells.toList.length sz&&Nat.ble (off+sz) cs.length) with
   |false=>rw[hc] at h;cases h
   |true=>
    rw[hc] at h
    simp only[cond_true] at h
    simp only[Bool.and_eq_true] at hc
    have h1:v.cells.size=sz:=by simpa using Nat.eq_of_beq_eq_true hc.1
    have h2:=Nat.le_of_ble_eq_true hc.2
    have ih:=JN pl r _ cs' h
    have hi':pl.toArray[i]? =some (off,sz):=by simpa using hi
    simp only[Instr.fill,hi']
    rw[if_neg (by simp [h1];omega)]
    have hput:v.cells.zipIdx.foldl (λ(cs:Array Value) (p:Value×Nat)=>cs.setIfInBounds (off+p.2) p.1) cs.toArray=(EX cs off v.cells.toList).toArray:=by
     rw[←Array.foldl_toList,Array.toList_zipIdx,NV (off+ ·),Sd _ _ _ _ (by simp;omega)]
     simp [EX]
    exact(congrArg (λx=>Instr.fill (pl.toArray[·]?) x r) hput).trans ih
def Qe (P:Program) (T:TypeId):Option (List (Nat×Nat)×List Value):=
 match P.underlying T,Cs P T with
 |some (.struct fs),some z=>(fs.toList.mapM (λf=>(P.info? f.type).map λi=>(f.offset,i.size))).map λpl=>(pl,z)
 |_,_=>none
theorem Ut {P:Program}{T:TypeId}{pl z pv cs}(h:Qe P T=some (pl,z)) (hc:Io pl z pv=some cs):P.built T pv=some cs.toArray:=by
 unfold Qe at h
 split at h
 ·rename_i fs z' hu hz
  simp only[Option.map_eq_some_iff,Prod.mk.injEq] at h
  obtain⟨pl',hp,rfl,rfl⟩:=h
  unfold Cs at hz
  simp only[Option.map_eq_some_iff,Option.bind_eq_some_iff] at hz
  obtain⟨zv,⟨i,hi,hzv⟩,hcs⟩:=hz
  simp only[Program.built,hi,hu,hzv,hp]
  have:=JN pl' pv z' cs hc
  rw[←hcs] at this
  simpa using this
 ·cases h
def qQ:Value→Nat
 | .int _ _=>1| .bool _=>2| .string _=>3|_=>0
def VE:Value→Value→Bool
 | .int _ a,.int _ b=>decide (a=b)
 | .bool a,.bool b=>a==b
 | .string a,.string b=>a==b
 |_,_=>false
def N0:List Value→List Value→Bool
 |[],_=>true
 |_::_,[]=>true
 |a::r,b::s=>VE a b&&N0 r s
section
variable {P:Program}{ops:Array Oper}{C:World→Prop}{Q:Act→Prop}{n:FN}{a:Act}{m:List (Nat×Value)}{rest:List Oper}
variable {d:Nat}{ty:TypeId}{pos:String}{af:Array Edge}{X Y:Operand}
def VW (m:List (Nat×Value)) (p:Nat×Operand):Option (Nat×Value):=(BP m p.2).map λv=>(p.1,v)
theorem Y3 {T:TypeId}{parts:Array (Nat×Operand)}{pl z pv cs}(hf:Fr n a m) (hl:Qe P T=some (pl,z)) (hp:parts.toList.mapM (VW m)=some pv) (hc:Io pl z pv=some cs) (hd:Nat.blt d n.1=true)
  (k:∀a,Fr n a ((d,.agg cs.toArray)::m)→wpQuiet P ops C Q rest a):wpQuiet P ops C Q (⟨some d,.build T parts,ty,pos,af,none⟩::rest) a:=by
 refine EW hf hd (λw _=>?_) k
 have hpv:(parts.map λ(p:Nat×Operand)=>(p.1,a.eval p.2)).toList=pv:=by
  obtain⟨l⟩:=parts
  simp only at hp
  simp only[List.map_toArray]
  clear hc k
  induction l generalizing pv with
  |nil=>simp at hp;subst hp;rfl
  |cons x l ih=>
   simp only[List.mapM_cons,Option.bind_eq_bind,Option.bind_eq_some_iff,VW,Option.map_eq_some_iff] at hp
   obtain⟨y,⟨v,hv,rfl⟩,ys,hys,hxy⟩:=hp
   simp only[Option.pure_def,Option.some.injEq] at hxy
   subst hxy
   simp only[List.map_cons,hf.eval hv,ih hys]
 have:=run_build (P:=P) w T (parts.map λ(p:Nat×Operand)=>(p.1,a.eval p.2)) cs.toArray (by rw[hpv];exact Ut hl hc)
 simp only[execOp,Sem.run_bind,this]
 rfl
def XS (P:Program) (T:TypeId):Option (List Nat):=
 if P.stoodInHeld T||P.eqGuardType P.depth T then none else
 match P.underlying T with
 |some (.struct fs)=>fs.toList.zipIdx.mapM λ(f,i)=>
  if f.name== "_" || !Nat.beq f.offset i then none else
  match P.underlying f.type with
  |some (.int _)=>some 1
  |some .bool=>some 2
  |some .string=>some 3
  |_=>none
 |_=>none
theorem Lg {w:World}:∀(fs:List Field) (ks:List Nat) (i d:Nat) (xs ys:List Value),
  (fs.zipIdx i).mapM (λ(p:Field×Nat)=>if p.1.name== "_" || !Nat.beq p.1.offset p.2 then none else
   match P.underlying p.1.type with
   |some (.int _)=>some 1
   |some .bool=>some 2
   |some .string=>some 3
   |_=>none)=some ks→(xs.drop i).map qQ=ks→(ys.drop i).map qQ=ks→(∀(j:Nat) (k1:IntKind) (n1:Int) (k2:IntKind) (n2:Int),xs[j]? =some (Value.int k1 n1)→ys[j]? =some (Value.int k2 n2)→k1=k2)→
  (Op.eqFields (d+1) xs.toArray ys.toArray fs).run P w= .ok (N0 (xs.drop i) (ys.drop i)) w
 |[],ks,i,d,xs,ys,h,hx,hy,hk=>by
  simp at h;subst h
  have h1:xs.drop i=[]:=by simpa using hx
  rw[h1];rfl
 |f::fs,ks,i,d,xs,ys,h,hx,hy,hk=>by
  simp only[List.zipIdx_cons,List.mapM_cons,Option.bind_eq_bind,Option.bind_eq_some_iff] at h
  obtain⟨k1,hk1,ks',hks',hkk⟩:=h
  simp only[Option.pure_def,Option.some.injEq] at hkk
  subst hkk
  split at hk1
  ·cases hk1
  ·rename_i hname
   simp only[Bool.or_eq_true,not_or,Bool.not_eq_true,Bool.not_eq_true',Bool.not_eq_false] at hname
   obtain⟨hn1,hn2⟩:=hname
   have hoff:=Nat.eq_of_beq_eq_true hn2
   have hnm:f.name≠ "_" :=by simpa using hn1
   cases hxd:xs.drop i with
   |nil=>rw[hxd] at hx;simp at hx
   |cons x xr=>
   cases hyd:ys.drop i with
   |nil=>rw[hyd] at hy;simp at hy
   |cons y yr=>
   rw[hxd] at hx;rw[hyd] at hy
   simp only[List.map_cons,List.cons.injEq] at hx hy
   have hx0:xs[i]? =some x:=by have:=congrArg (·[0]?) hxd;simpa using this
   have hy0:ys[i]? =some y:=by have:=congrArg (·[0]?) hyd;simpa using this
   have hxr:xs.drop (i+1)=xr:=by have:=congrArg List.tail hxd;simpa [List.tail_drop] using this
   have hyr:ys.drop (i+1)=yr:=by have:=congrArg List.tail hyd;simpa [List.tail_drop] using this
   have ih:=Lg (w:=w) fs ks' (i+1) d xs ys hks' (by rw[hxr];exact hx.2) (by rw[hyr];exact hy.2) hk
   rw[hxr,hyr] at ih
   have hag:∀dd,P.underlying f.type=some dd→V5 dd=false→∀(zs:List Value) z,zs[i]? =some z→(part f.type zs.toArray f.offset).run P w= .ok z w:=by
    intro dd hdd hag zs z hz
    simp [part,OI hdd,hag,hoff,hz]
   simp only[Op.eqFields,if_pos hnm,Sem.run_bind,N0]
   split at hk1
   ·rename_i kk hu
    simp only[Option.some.injEq] at hk1;subst hk1
    rw[hag _ hu rfl xs x hx0];simp only[Result.andThen_ok]
    rw[hag _ hu rfl ys y hy0];simp only[Result.andThen_ok]
    cases x<;>simp [qQ] at hx
    cases y<;>simp [qQ] at hy
    rename_i ka na kb nb
    have:=hk i ka na kb nb hx0 hy0
    subst this
    rw[run_equalIn_int w d f.type ka kk na nb hu]
    simp only[Result.andThen_ok,VE,Sem.run_ite,Sem.run_pure]
    rw[M0]
    cases decide (na=nb)<;>simp [ih]
   ·rename_i hu
    simp only[Option.some.injEq] at hk1;subst hk1
    rw[hag _ hu rfl xs x hx0];simp only[Result.andThen_ok]
    rw[hag _ hu rfl ys y hy0];simp only[Result.andThen_ok]
    cases x<;>simp [qQ] at hx
    cases y<;>simp [qQ] at hy
    rw[run_equalIn_bool' w d f.type _ _ hu]
    simp only[Result.andThen_ok,VE,Sem.run_ite,Sem.run_pure]
    rename_i b1 b2
    cases (b1==b2)<;>simp [ih]
   ·rename_i hu
    simp only[Option.some.injEq] at hk1;subst hk1
    rw[hag _ hu rfl xs x hx0];simp only[Result.andThen_ok]
    rw[hag _ hu rfl ys y hy0];simp only[Result.andThen_ok]
    cases x<;>simp [qQ] at hx
    cases y<;>simp [qQ] at hy
    rw[run_equalIn_string w d f.type _ _ hu]
    simp only[Result.andThen_ok,VE,Sem.run_ite,Sem.run_pure]
    rename_i b1 b2
    rw[beq_toListBytes]
    cases (b1.toList==b2.toList)<;>simp [ih]
   ·cases hk1
def Lf:List Value→List Value→Bool
 | .int k _::r,.int l _::s=>decide (k=l)&&Lf r s
 |_::r,_::s=>Lf r s
 |_,_=>true
theorem NL:∀(xs ys:List Value),Lf xs ys=true→∀(j:Nat) (k1:IntKind) (n1:Int) (k2:IntKind) (n2:Int),xs[j]? =some (Value.int k1 n1)→ys[j]? =some (Value.int k2 n2)→k1=k2
 |[],_,_,j,_,_,_,_,h,_=>by simp at h
 |_::_,[],_,j,_,_,_,_,_,h=>by simp at h
 |x::r,y::s,h,0,k1,n1,k2,n2,hx,hy=>by
  simp only[List.getElem?_cons_zero,Option.some.injEq] at hx hy
  subst hx;subst hy
  simp only[Lf,Bool.and_eq_true,decide_eq_true_eq] at h
  exact h.1
 |x::r,y::s,h,j+1,k1,n1,k2,n2,hx,hy=>by
  simp only[List.getElem?_cons_succ] at hx hy
  refine NL r s ?_ j k1 n1 k2 n2 hx hy
  unfold Lf at h
  split at h
  ·rename_i e1 e2
   simp only[Bool.and_eq_true] at h
   injection e1 with e1 e1';injection e2 with e2 e2'
   subst e1';subst e2'
   exact h.2
  ·rename_i e1 e2
   injection e1 with e1 e1';injection e2 with e2 e2'
   subst e1';subst e2'
   exact h
  ·rename_i hh1 hh2
   exact absurd rfl (hh2 _ _ _ _ rfl)
theorem Py {T:TypeId}{ks:List Nat}{xs ys:List Value}{w:World}(h:XS P T=some ks) (hx:xs.map qQ=ks) (hy:ys.map qQ=ks) (hk:Lf xs ys=true):
  (Op.equalIn 10000 T (.agg xs.toArray) (.agg ys.toArray)).run P w= .ok (N0 xs ys) w∧∀(op:BinOp) (x y:Operand),(eqGuard op T x y (.agg xs.toArray) (.agg ys.toArray)).run P w= .ok () w:=by
 unfold XS at h
 split at h
 ·cases h
 ·rename_i hg
  simp only[Bool.or_eq_true,not_or,Bool.not_eq_true] at hg
  split at h
  ·rename_i fs hu
   refine⟨?_,λop x y=>run_eqGuard_agg w op T x y _ _ hg.2⟩
   have hfo:P.fieldsOf T=fs:=by simp [Program.fieldsOf,hu]
   have:=run_equalIn_struct (P:=P) w 9999 T xs.toArray ys.toArray (by rw[hfo];exact hu) hg.1
   rw[this,hfo]
   exact Lg fs.toList ks 0 9998 xs ys h (by simpa using hx) (by simpa using hy) (NL xs ys hk)
  ·cases h
theorem Y1 {T t2:TypeId}{ks xs ys}(hf:Fr n a m) (hx:BP m X=some (.agg xs)) (hy:BP m Y=some (.agg ys)) (hl:XS P T=some ks) (h1:xs.toList.map qQ=ks) (h2:ys.toList.map qQ=ks) (h3:Lf xs.toList ys.toList=true) (hd:Nat.blt d n.1=true)
  (k:∀a,Fr n a ((d,.bool (N0 xs.toList ys.toList))::m)→wpQuiet P ops C Q rest a):wpQuiet P ops C Q (⟨some d,.binOp .eql T X Y t2,ty,pos,af,none⟩::rest) a:=
 EW hf hd (λw _=>by
  obtain⟨k1,k2⟩:=Py (w:=w) hl h1 h2 h3
  simp only[Array.toArray_toList] at k1 k2
  simp [execOp,hf.eval hx,hf.eval hy,k2,run_eql_struct,k1]) k
theorem Yt {S:Nat→Prop}{L:List HP}{h:AX}{t T b o sz:Nat}{ag:Bool}{cs vs:List Value}(ck:CK C h) (hs:St S L h) (hf:Fr n a m) (hx:BP m X=some (.pointer (some ⟨b,o,none⟩))) (hm:Bx b T cs∈L) (hv:(cs.drop o).take sz=vs) (hl:Nat.beq vs.length sz=true) (ht:GI P t sz ag=true) (h1:(ag||Nat.beq sz 1)=true) (hd:Nat.blt d n.1=true)
  (k:∀a,Fr n a ((d,if ag then .agg vs.toArray else vs.headD undef)::m)→wpQuiet P ops C Q rest a):wpQuiet P ops C Q (⟨some d,.load t X,ty,pos,af,none⟩::rest) a:=by
 refine EW hf hd (λw hw=>?_) k
 obtain⟨F,hF0,hFs⟩:=hs.get hm
 have hF:(Bx b T cs).holds S F w.heap:=⟨hF0.1,(ck w hw b (hFs b ((hF0.1 b).2 rfl)).1).trans hF0.2⟩
 have hlen:=Nat.eq_of_beq_eq_true hl
 have:=LE (P:=P) (w:=w) (S:=λ_=>True) (p:= .pointer (some ⟨b,o,none⟩)) (cs:=vs) (sz:=sz) (ag:=ag) (t:=t) ⟨⟨b,o,none⟩,rfl,rfl,trivial,λj hj=>by
  rw[Bx.cell hF,←hv,List.getElem?_take_of_lt (by omega),List.getElem?_drop]⟩ hlen ht (λe=>by subst e;simpa using h1)
 simp [execOp,hf.eval hx,this]
end
end Go.Proofs.YtibidnaedddfdaaGreat
