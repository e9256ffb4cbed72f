import Derived.Test.YtibidnaedddfdaaGreatBCore6
namespace Go.Proofs.YtibidnaedddfdaaGreat
set_option linter.unusedSimpArgs false
set_option linter.unusedVariables false
open Go.RowKit
def gt {α}[Inhabited α] (l:List α) (i:Int):α:=l.getD i.toNat default
theorem gd {α}[Inhabited α] {l:List α}{i:Int}(h0:0≤i) (h:i<(l.length:Int)):l[i.toNat]? =some (gt l i):=by
 have:i.toNat<l.length:=by omega
 simp [gt,List.getD,List.getElem?_eq_getElem this]
instance:Inhabited ByteArray:=⟨.empty⟩
theorem Sl.one {α S h}{r:AW α}{v l}(k:Sl S h r v l):v.oneCell'=true:=by
 rcases k with ⟨rfl,_⟩|⟨a,c,rfl,_⟩<;>rfl
section
variable {P:Program}{ex ex':List (Nat×AP)}{R N N':AP}{cs cs':List Code}{B:World}{h:Ac}{n:FN}{m m':SM}{S:Nat→Prop}{L:List HP}
theorem JE {i:Nat}(hk:VQ ex i=some (W P ex' R cs' N')) (k:WF P ex' R cs' N' B h n m):WF P ex R (.exit i::cs) N B h n m:=λa w hf hw=>Sg hk (k a w hf hw)
theorem Ap (k:WF P ex' R cs' N' B h n m):WF P ex R [] (W P ex' R cs' N') B h n m:=λa w hf hw=>k a w hf hw
theorem WF.run {a w}(k:WF P ex R cs N B h n m) (hf:Fr n a m) (hw:Wd B h w):W P ex R cs N a w:=k a w hf hw
end
namespace QF
section
variable {P:Program}{ops:Array Oper}{C:World→Prop}{Q:Act→Prop}{n:FN}{m m':SM}{rest:List Oper}
variable {d:Nat}{ty:TypeId}{pos:String}{af:Array Edge}{X Y:Operand}{t t1 t2:TypeId}{x y:Int}{kd:IntKind}{v p:Value}{A S:Nat→Prop}{L:List HP}{h:Ac}
theorem cutv (j d:Nat) (v:Value) {l:List Oper}(h1:QF P ops C (λa=>Fr n a ((d,v)::m)) (l.take j) n m) (h2:QF P ops C Q (l.drop j) n ((d,v)::m)):QF P ops C Q l n m:=cut j _ h1 h2
end
end QF
def RV (P:Program) (w:World) (a:Act):ResultVar→Value→Prop
 | .tmp t,v=>a.tmps.getD t undef=v
 | .cell t T,v=>∀w2:World,w2.heap=w.heap→(do loadVar T (←asAddr (a.tmps.getD t undef)):Sem Value).run P w2= .ok v w2
def SW (P:Program) (w:World) (a:Act):List ResultVar→List Value→Prop
 |[],[]=>True
 |r::rs,v::vs=>RV P w a r v∧SW P w a rs vs
 |_,_=>False
def Wa:List Value→Value
 |[v]=>v
 |vs=> .tuple vs.toArray
theorem Ma {P:Program}{w:World}{a:Act}{fn:Func}{rs:List ResultVar}{vs:List Value}(hr:fn.results.toList=rs) (k:SW P w a rs vs):(results fn a.tmps).run P w= .ok (Wa vs) w:=by
 have key:∀(rs:List ResultVar) (vs:List Value),SW P w a rs vs→(rs.mapM λr:ResultVar=>(match r with
   | .tmp t=>pure (a.tmps.getD t undef)
   | .cell c t=>do loadVar t (←asAddr (a.tmps.getD c undef)):Sem Value)).run P w= .ok vs w:=by
  intro rs
  induction rs with
  |nil=>intro vs k;cases vs with
   |nil=>simp
   |cons _ _=>exact k.elim
  |cons r rs ih=>intro vs k;cases vs with
   |nil=>exact k.elim
   |cons v vs=>
    obtain⟨k1,k2⟩:=k
    have h2:=ih vs k2
    cases r with
    |tmp t=>
     have k1:a.tmps.getD t undef=v:=k1
     simp only[List.mapM_cons,Sem.run_bind,Sem.run_pure,Result.andThen_ok,h2,k1]
    |cell c t=>
     have k1:(do loadVar t (←asAddr (a.tmps.getD c undef)):Sem Value).run P w= .ok v w:=k1 w rfl
     simp only[List.mapM_cons]
     rw[Sem.run_bind,k1]
     simp only[Result.andThen_ok,Sem.run_bind,h2,Sem.run_pure]
 have h1:=key rs vs k
 unfold results
 simp only[Array.mapM_eq_mapM_toList,hr,Sem.run_bind,Sem.run_map]
 refine(congrArg (λx=>(Result.andThen x λa w'=>Result.ok a.toArray w').andThen λa w'=>Sem.run P (pure (if h:a.size=1 then a[0] else Value.tuple a)) w') h1).trans ?_
 clear h1 key k
 match vs with
 |[]=>rfl
 |[v]=>rfl
 |_::_::_=>rfl
section
variable {P:Program}{fn:Func}{B:World}{S S':Nat→Prop}{h h':Ac}{post:Value→(Nat→Prop)→Ac→Prop}{n:FN}{a:Act}{m:SM}{w:World}{L:List HP}
theorem Js {t v}(hf:Fr n a m) (hv:lk m t=some v):RV P w a (.tmp t) v:=by
 have:=hf.eval (X:= .tmp t) hv
 simpa [RV,Act.eval] using this
theorem MA {t T b T' sz}{cs:List Value}(hf:Fr n a m) (hw:Wd B h w) (hs:St S L h) (hv:lk m t=some (.pointer (some ⟨b,0,none⟩))) (hm:Bx b T' cs∈L) (ht:GA P T sz true=true) (hl:cs.length=sz):RV P w a (.cell t T) (.agg cs.toArray):=by
 obtain⟨F,k1,_⟩:=hs.get hm
 have h1:=hf.eval (X:= .tmp t) hv
 simp only[Act.eval] at h1
 intro w2 he
 have:=LK (P:=P) (w:=w2) (S:=λ_=>True) (p:= .pointer (some ⟨b,0,none⟩)) (cs:=cs) ⟨⟨b,0,none⟩,rfl,rfl,trivial,λj _=>by rw[he,hw.heap,Nat.zero_add,Bx.cell k1]⟩ hl ht (λe=>by cases e)
 simp only[Instr.loadAt,Instr.sureAddr,Sem.run_bind,Sem.run_pure,Result.andThen_ok,if_true] at this
 simp only[h1,asAddr,Sem.run_bind,Sem.run_pure,Result.andThen_ok,this]
theorem OO {w2:World}(he:w2.heap=w.heap):∀{rs:List ResultVar}{vs:List Value},SW P w a rs vs→SW P w2 a rs vs
 |[],[],_=>trivial
 |[],_::_,h=>h.elim
 |_::_,[],h=>h.elim
 |r::rs,v::vs,⟨h,t⟩=>⟨by
   cases r with
   |tmp t=>exact h
   |cell c t=>exact λw3 h3=>h w3 (h3.trans he),OO he t⟩
theorem HY:SW P w a [] []:=trivial
theorem Gr {r v rs vs}(k:RV P w a r v) (ks:SW P w a rs vs):SW P w a (r::rs) (v::vs):=⟨k,ks⟩
theorem Hq {k:Nat}{rs:List ResultVar}{vs:List Value}{v:Value}(hf:Fr (k,[]) a m) (hr:fn.results.toList=rs) (hw:Wd B h' w) (hk:SW P w a rs vs) (hv:Wa vs=v) (e:Bg S h S' h') (kp:post v S' h'):Rt P fn B S h post a w:=by
 refine⟨[],hf.dfr,List.nodup_nil,λD hD=>(by cases hD),λw2 h1 h2 h3 h4 h5=>?_⟩
 have he:=OC h4 h5
 have hw2:Wd B h' w2:=⟨he.trans hw.heap,h1.trans hw.os,h2.trans hw.tape,h3.trans hw.out⟩
 exact⟨v,by rw[←hv];exact Ma hr (OO he hk),S',h',hw2,e,kp⟩
end
theorem sb {m:SM}(k:Nat) {v:Value}{r:SM}(h:lk m k=some v) (s:PI m r):PI m ((k,v)::r):=⟨h,s⟩
theorem J6 {m:SM}:PI m []:=trivial
section
variable {P:Program}{ex:List (Nat×AP)}{R N:AP}{cs:List Code}{B:World}{h:Ac}{n:FN}{m m':SM}{S:Nat→Prop}{L:List HP}
end
theorem Bh.pure {P f args S h}{post:Value→(Nat→Prop)→Ac→Prop}(k:Bh P f args S h post):∃v S' h',post v S' h':=by
 let w:World:={ (default:World) with heap:=h}
 obtain⟨e,w',fr,⟨v,S',h',_,_,_,hp⟩,_⟩:=k w w ⟨rfl,rfl,rfl,rfl⟩ []
 exact⟨v,S',h',hp⟩
theorem F6 {P:Program}{ops:Array Oper}{Q:Act→Prop}{n:FN}{m:SM}{rest:List Oper}{d:Nat}{ty:TypeId}{pos:String}{af:Array Edge}{X:Operand}{v:Value}{Ψ:Prop}{f:Nat}{xs:Array Operand}{tys:Array TypeId}{args vs:List Value}{first cap:Array Value}{h B}
  (hX:BW m X=some (.func (.func f) first cap)) (hxs:xs.toList.mapM (BW m)=some args) (hvs:first.toList++args++cap.toList=vs) (hcb:Ar P f=true) (hd:Nat.blt d n.1=true)
  (hc:∀h',An h h'→Bh P f vs.toArray (λb=>b<h'.size) h' (λu _ _=>u=v∧Ψ))
  (k:Ψ→QF P ops (Cl B h) Q rest n ((d,v)::m)):QF P ops (Cl B h) Q (⟨some d,.call ⟨.value X,xs,tys⟩,ty,pos,af,none⟩::rest) n m:=by
 obtain⟨_,_,_,_,hΨ⟩:=(hc h (An.refl h)).pure
 exact QF.call hX hxs hvs hcb hd (λh' o=>(hc h' o).mono λ_ _ _ _ p=>p.1) (k hΨ)
namespace QF
section
variable {P:Program}{ops:Array Oper}{C:World→Prop}{Q:Act→Prop}{n:FN}{m m':SM}{rest:List Oper}{d:Nat}
theorem gnT {o:Oper}{j e:Nat}(hg:o.guard=some (j,false)) (hj:(ops[j]?).bind (·.dst)=some e) (hb:lk m e=some (.bool true)) (ho:o.dst=some d) (hd:Nat.blt d n.1=true) (k:QF P ops C Q rest n ((d,undef)::m)):QF P ops C Q (o::rest) n m:=gn (b:=true) hg hj hb ho hd k
end
end QF
theorem mh {α}{a:α}{l:List α}:a∈a::l:=List.Mem.head _
theorem mt {α}{a b:α}{l:List α}(h:a∈l):a∈b::l:=List.Mem.tail _ h
theorem LF.app1 {P:Program}{ops:Array Oper}{Q:Exit→Act→World→Prop}{n:FN}{m:SM}{rest:List Oper}{d:Nat}{ty:TypeId}{pos:String}{af:Array Edge}{X Y:Operand}{B:World}{h:Ac}{S:Nat→Prop}{L:List HP}{v:Value}
  {α} {r:AW α} {T e sz by_:Nat} {z:List Value} {l xs:List α} {b2 T2 len2 sc:Nat} {news:List Value} {LL:Value→List HP} (hx:BW m X=some v) (hy:BW m Y=some (.slice (some ⟨b2,0,none⟩) len2 sc)) (he:LO P T=some (e,sz,by_,z)) (hrs:r.sz=sz)
  (hm:Bx b2 T2 news∈L) (hn:H9 S h r news xs) (hl2:len2=xs.length) (hpos:Nat.blt 0 by_=true) (hby:(l.length+xs.length)*by_≤140737488355328) (hd:Nat.blt d n.1=true) (hs:St S L h) (rp:∀v',Ik L (OS r e v l) (OS r e v' (l++xs)) (LL v'))
  (k:∀v' h',St S (LL v') h'→Bg S h S h'→LF P ops Q rest B h' n ((d,v')::m)):LF P ops Q (⟨some d,.call ⟨.builtin .append,#[X,Y],#[T,T]⟩,ty,pos,af,none⟩::rest) B h n m:=by
 have h1:1≤by_:=by simpa [Nat.blt] using hpos
 have h2:l.length+xs.length≤(l.length+xs.length)*by_:=Nat.le_mul_of_pos_right _ h1
 exact LF.appB hx hy he hrs hm hn hl2 (by unfold maxLen;omega) hby hd hs rp k
namespace QF
section
variable {P:Program}{ops:Array Oper}{C:World→Prop}{Q:Act→Prop}{n:FN}{m m':SM}{rest:List Oper}{d:Nat}{ty:TypeId}{pos:String}{af:Array Edge}{X Y Z:Operand}{t1 t2 t3 aty:TypeId}{x y z:Int}{kd:IntKind}
theorem eqstr {X Y:Operand}{t1 t2:TypeId}{a b:ByteArray}(hx:BW m X=some (.string a)) (hy:BW m Y=some (.string b)) (hd:Nat.blt d n.1=true) (k:QF P ops C Q rest n ((d,.bool (a==b))::m)):QF P ops C Q (⟨some d,.binOp .eql t1 X Y t2,ty,pos,af,none⟩::rest) n m:=
 λ_ hf=>EA hf hd (λw _=>by
  have h1:(eqGuard .eql t1 X Y (.string a) (.string b)).run P w= .ok () w:=by unfold eqGuard;simp
  simp [execOp,hf.eval hx,hf.eval hy,h1,binOp,Op.stringOp,beq_toListBytes]) k
theorem lens {X:Operand}{t1:TypeId}{s:ByteArray}(hx:BW m X=some (.string s)) (hu:P.underlying t1=some .string) (hd:Nat.blt d n.1=true) (k:QF P ops C Q rest n ((d,.int .i64 s.size)::m)):QF P ops C Q (⟨some d,.call ⟨.builtin .len,#[X],#[t1]⟩,aty,pos,af,none⟩::rest) n m:=
 λ_ hf=>EA hf hd (λw _=>by simp [execOp,resolve,invoke,builtin,Builtin.len_,hf.eval hx,run_underlying hu,goInt]) k
end
end QF
end Go.Proofs.YtibidnaedddfdaaGreat
