import Derived.Test.YtblcgjadhemlbaaGreatQCore6
import Derived.StillTail
namespace Go.Proofs.YtblcgjadhemlbaaGreat
set_option linter.unusedSimpArgs false
set_option linter.unusedVariables false
open Go.RowKit
instance:Inhabited ByteArray:=⟨.empty⟩
theorem Sl.one {α S h}{r:AN α}{v l}(k:Sl S h r v l):v.oneCell'=true:=by
 rcases k with ⟨rfl,_⟩|⟨a,c,rfl,_⟩<;>rfl
section
variable {P:Program}{ex ex':List (Nat×AP)}{R N N':AP}{cs cs':List Code}{B:World}{h:Aq}{n:FN}{m m':SM}{S:Nat→Prop}{L:List HP}
theorem KI {i:Nat}(hk:YT ex i=some (W P ex' R cs' N')) (k:WF P ex' R cs' N' B h n m):WF P ex R (.exit i::cs) N B h n m:=λa w hf hw=>UE hk (k a w hf hw)
theorem BJ (k:WF P ex' R cs' N' B h n m):WF P ex R [] (W P ex' R cs' N') B h n m:=λa w hf hw=>k a w hf hw
theorem Ad {a w}(k:WF P ex R cs N B h n m) (hf:Fr n a m) (hw:Wd B h w):W P ex R cs N a w:=k a w hf hw
end
section
variable {P:Program}{ops:Array Oper}{C:World→Prop}{Q:Act→Prop}{n:FN}{m m':SM}{rest:List Oper}
variable {d:Nat}{ty:TypeId}{pos:String}{af:Array Edge}{X Y:Operand}{t t1 t2:TypeId}{x y:Int}{kd:IntKind}{v p:Value}{A S:Nat→Prop}{L:List HP}{h:Aq}
theorem AV (j d:Nat) (v:Value) {l:List Oper}(h1:QF P ops C (λa=>Fr n a ((d,v)::m)) (l.take j) n m) (h2:QF P ops C Q (l.drop j) n ((d,v)::m)):QF P ops C Q l n m:=Y6 j _ h1 h2
end
def RV (P:Program) (w:World) (a:Act):ResultVar→Value→Prop
 | .tmp t,v=>a.tmps.getD t undef=v
 | .cell t T,v=>∀w2:World,w2.heap=w.heap→(do loadVar T (←asAddr (a.tmps.getD t undef)):Sem Value).run P w2= .ok v w2
def T8 (P:Program) (w:World) (a:Act):List ResultVar→List Value→Prop
 |[],[]=>True
 |r::rs,v::vs=>RV P w a r v∧T8 P w a rs vs
 |_,_=>False
def ZR:List Value→Value
 |[v]=>v
 |vs=> .tuple vs.toArray
theorem RL {P:Program}{w:World}{a:Act}{fn:Func}{rs:List ResultVar}{vs:List Value}(hr:fn.results.toList=rs) (k:T8 P w a rs vs):(results fn a.tmps).run P w= .ok (ZR vs) w:=by
 have key:∀(rs:List ResultVar) (vs:List Value),T8 P w a rs vs→(rs.mapM λr:ResultVar=>(match r with
   | .tmp t=>pure (a.tmps.getD t undef)
   | .cell c t=>do loadVar t (←asAddr (a.tmps.getD c undef)):Sem Value)).run P w= .ok vs w:=by
  intro rs
  induction rs with
  |nil=>intro vs k;cases vs with
   |nil=>simp
   |cons _ _=>exact k.elim
  |cons r rs ih=>intro vs k;cases vs with
   |nil=>exact k.elim
   |cons v vs=>
    obtain⟨k1,k2⟩:=k
    have h2:=ih vs k2
    cases r with
    |tmp t=>
     have k1:a.tmps.getD t undef=v:=k1
     simp only[List.mapM_cons,Sem.run_bind,Sem.run_pure,Result.andThen_ok,h2,k1]
    |cell c t=>
     have k1:(do loadVar t (←asAddr (a.tmps.getD c undef)):Sem Value).run P w= .ok v w:=k1 w rfl
     simp only[List.mapM_cons]
     rw[Sem.run_bind,k1]
     simp only[Result.andThen_ok,Sem.run_bind,h2,Sem.run_pure]
 have h1:=key rs vs k
 unfold results
 simp only[Array.mapM_eq_mapM_toList,hr,Sem.run_bind,Sem.run_map]
 refine(congrArg (λx=>(Result.andThen x λa w'=>Result.ok a.toArray w').andThen λa w'=>Sem.run P (pure (if h:a.size=1 then a[0] else Value.tuple a)) w') h1).trans ?_
 clear h1 key k
 match vs with
 |[]=>rfl
 |[v]=>rfl
 |_::_::_=>rfl
section
variable {P:Program}{fn:Func}{B:World}{S S':Nat→Prop}{h h':Aq}{post:Value→(Nat→Prop)→Aq→Prop}{n:FN}{a:Act}{m:SM}{w:World}{L:List HP}
theorem qQ {t v}(hf:Fr n a m) (hv:lk m t=some v):RV P w a (.tmp t) v:=by
 have:=hf.eval (X:= .tmp t) hv
 simpa [RV,Act.eval] using this
theorem V8 {t T b T' sz}{cs:List Value}(hf:Fr n a m) (hw:Wd B h w) (hs:St S L h) (hv:lk m t=some (.pointer (some ⟨b,0,none⟩))) (hm:Bx b T' cs∈L) (ht:Hq P T sz true=true) (hl:cs.length=sz):RV P w a (.cell t T) (.agg cs.toArray):=by
 obtain⟨F,k1,_⟩:=hs.get hm
 have h1:=hf.eval (X:= .tmp t) hv
 simp only[Act.eval] at h1
 intro w2 he
 have:=K4 (P:=P) (w:=w2) (S:=λ_=>True) (p:= .pointer (some ⟨b,0,none⟩)) (cs:=cs) ⟨⟨b,0,none⟩,rfl,rfl,trivial,λj _=>by rw[he,hw.heap,Nat.zero_add,Bx.cell k1]⟩ hl ht (λe=>by cases e)
 simp only[Instr.loadAt,Instr.sureAddr,Sem.run_bind,Sem.run_pure,Result.andThen_ok,if_true] at this
 simp only[h1,asAddr,Sem.run_bind,Sem.run_pure,Result.andThen_ok,this]
theorem P3 {w2:World}(he:w2.heap=w.heap):∀{rs:List ResultVar}{vs:List Value},T8 P w a rs vs→T8 P w2 a rs vs
 |[],[],_=>trivial
 |[],_::_,h=>h.elim
 |_::_,[],h=>h.elim
 |r::rs,v::vs,⟨h,t⟩=>⟨by
   cases r with
   |tmp t=>exact h
   |cell c t=>exact λw3 h3=>h w3 (h3.trans he),P3 he t⟩
theorem Jm:T8 P w a [] []:=trivial
theorem Hn {r v rs vs}(k:RV P w a r v) (ks:T8 P w a rs vs):T8 P w a (r::rs) (v::vs):=⟨k,ks⟩
theorem Jn {k:Nat}{rs:List ResultVar}{vs:List Value}{v:Value}(hf:Fr (k,[]) a m) (hr:fn.results.toList=rs) (hw:Wd B h' w) (hk:T8 P w a rs vs) (hv:ZR vs=v) (e:B8 S h S' h') (kp:post v S' h'):Rt P fn B S h post a w:=by
 refine⟨[],hf.dfr,List.nodup_nil,λD hD=>(by cases hD),λw2 h1 h2 h3 h4 h5=>?_⟩
 have he:=Pr h4 h5
 have hw2:Wd B h' w2:=⟨he.trans hw.heap,h1.trans hw.os,h2.trans hw.tape,h3.trans hw.out⟩
 exact⟨v,by rw[←hv];exact RL hr (P3 he hk),S',h',hw2,e,kp⟩
end
theorem sb {m:SM}(k:Nat) {v:Value}{r:SM}(h:lk m k=some v) (s:Qp m r):Qp m ((k,v)::r):=⟨h,s⟩
theorem OG {m:SM}:Qp m []:=trivial
section
variable {P:Program}{ex:List (Nat×AP)}{R N:AP}{cs:List Code}{B:World}{h:Aq}{n:FN}{m m':SM}{S:Nat→Prop}{L:List HP}
end
theorem CG.pure {P f args S h}{post:Value→(Nat→Prop)→Aq→Prop}(k:CG P f args S h post):∃v S' h',post v S' h':=by
 let w:World:={ (default:World) with heap:=h}
 obtain⟨e,w',fr,⟨v,S',h',_,_,_,hp⟩,_⟩:=k w w ⟨rfl,rfl,rfl,rfl⟩ []
 exact⟨v,S',h',hp⟩
theorem Hh {P:Program}{ops:Array Oper}{Q:Act→Prop}{n:FN}{m:SM}{rest:List Oper}{d:Nat}{ty:TypeId}{pos:String}{af:Array Edge}{X:Operand}{v:Value}{Ψ:Prop}{f:Nat}{xs:Array Operand}{tys:Array TypeId}{args vs:List Value}{first cap:Array Value}{h B}
  (hX:Bq m X=some (.func (.func f) first cap)) (hxs:xs.toList.mapM (Bq m)=some args) (hvs:first.toList++args++cap.toList=vs) (hcb:BR P f=true) (hd:Nat.blt d n.1=true)
  (hc:∀h',BA h h'→CG P f vs.toArray (λb=>b<h'.size) h' (λu _ _=>u=v∧Ψ))
  (k:Ψ→QF P ops (Cl B h) Q rest n ((d,v)::m)):QF P ops (Cl B h) Q (⟨some d,.call ⟨.value X,xs,tys⟩,ty,pos,af,none⟩::rest) n m:=by
 obtain⟨_,_,_,_,hΨ⟩:=(hc h (BA.refl h)).pure
 exact W4 hX hxs hvs hcb hd (λh' o=>(hc h' o).mono λ_ _ _ _ p=>p.1) (k hΨ)
section
variable {P:Program}{ops:Array Oper}{C:World→Prop}{Q:Act→Prop}{n:FN}{m m':SM}{rest:List Oper}{d:Nat}
theorem A7 {o:Oper}{j e:Nat}(hg:o.guard=some (j,true)) (hj:(ops[j]?).bind (·.dst)=some e) (hb:lk m e=some (.bool false)) (ho:o.dst=some d) (hd:Nat.blt d n.1=true) (k:QF P ops C Q rest n ((d,undef)::m)):QF P ops C Q (o::rest) n m:=cC (b:=false) hg hj hb ho hd k
end
theorem mh {α}{a:α}{l:List α}:a∈a::l:=List.Mem.head _
theorem mt {α}{a b:α}{l:List α}(h:a∈l):a∈b::l:=List.Mem.tail _ h
theorem XC {P:Program}{ops:Array Oper}{Q:Exit→Act→World→Prop}{n:FN}{m:SM}{rest:List Oper}{d:Nat}{ty:TypeId}{pos:String}{af:Array Edge}{X Y:Operand}{B:World}{h:Aq}{S:Nat→Prop}{L:List HP}{v:Value}
  {α} {r:AN α} {T e sz by_:Nat} {z:List Value} {l xs:List α} {b2 T2 len2 sc:Nat} {news:List Value} {LL:Value→List HP} (hx:Bq m X=some v) (hy:Bq m Y=some (.slice (some ⟨b2,0,none⟩) len2 sc)) (he:Mb P T=some (e,sz,by_,z)) (hrs:r.sz=sz)
  (hm:Bx b2 T2 news∈L) (hn:Jw S h r news xs) (hl2:len2=xs.length) (hpos:Nat.blt 0 by_=true) (hby:(l.length+xs.length)*by_≤140737488355328) (hd:Nat.blt d n.1=true) (hs:St S L h) (rp:∀v',Kh L (OS r e v l) (OS r e v' (l++xs)) (LL v'))
  (k:∀v' h',St S (LL v') h'→B8 S h S h'→LF P ops Q rest B h' n ((d,v')::m)):LF P ops Q (⟨some d,.call ⟨.builtin .append,#[X,Y],#[T,T]⟩,ty,pos,af,none⟩::rest) B h n m:=by
 have h1:1≤by_:=by simpa [Nat.blt] using hpos
 have h2:l.length+xs.length≤(l.length+xs.length)*by_:=Nat.le_mul_of_pos_right _ h1
 exact XB hx hy he hrs hm hn hl2 (by unfold maxLen;omega) hby hd hs rp k
section
variable {P:Program}{ops:Array Oper}{C:World→Prop}{Q:Act→Prop}{n:FN}{m m':SM}{rest:List Oper}{d:Nat}{ty:TypeId}{pos:String}{af:Array Edge}{X Y Z:Operand}{t1 t2 t3 aty:TypeId}{x y z:Int}{kd:IntKind}
theorem W1 (hx:Bq m X=some (.int kd x)) (hy:Bq m Y=some (.int kd y)) (hz:Bq m Z=some (.int kd z)) (hd:Nat.blt d n.1=true) (k:QF P ops C Q rest n ((d,.int kd (Min.min (Min.min x y) z))::m)):QF P ops C Q (⟨some d,.call ⟨.builtin .min,#[X,Y,Z],#[t1,t2,t3]⟩,aty,pos,af,none⟩::rest) n m:=
 λa hf=>E9 hf hd (λw _=>by
  have h1:(if y<x then y else x)=Min.min x y:=by rw[Int.min_def];split<;>split<;>omega
  have h2:(if z<Min.min x y then z else Min.min x y)=Min.min (Min.min x y) z:=by rw[Int.min_def (Min.min x y)];split<;>split<;>omega
  simp [execOp,resolve,invoke,builtin,Builtin.min_,Builtin.min2,hf.eval hx,hf.eval hy,hf.eval hz,h1,h2]) k
theorem Rw {X Y:Operand}{t1 t2:TypeId}{a b:ByteArray}(hx:Bq m X=some (.string a)) (hy:Bq m Y=some (.string b)) (hd:Nat.blt d n.1=true) (k:QF P ops C Q rest n ((d,.bool (a==b))::m)):QF P ops C Q (⟨some d,.binOp .eql t1 X Y t2,ty,pos,af,none⟩::rest) n m:=
 λ_ hf=>E9 hf hd (λw _=>by
  have h1:(eqGuard .eql t1 X Y (.string a) (.string b)).run P w= .ok () w:=by unfold eqGuard;simp
  simp [execOp,hf.eval hx,hf.eval hy,h1,binOp,Op.stringOp,beq_toListBytes]) k
theorem NW {X:Operand}{t1:TypeId}{s:ByteArray}(hx:Bq m X=some (.string s)) (hu:P.underlying t1=some .string) (hd:Nat.blt d n.1=true) (k:QF P ops C Q rest n ((d,.int .i64 s.size)::m)):QF P ops C Q (⟨some d,.call ⟨.builtin .len,#[X],#[t1]⟩,aty,pos,af,none⟩::rest) n m:=
 λ_ hf=>E9 hf hd (λw _=>by simp [execOp,resolve,invoke,builtin,Builtin.len_,hf.eval hx,run_underlying hu,goInt]) k
end
end Go.Proofs.YtblcgjadhemlbaaGreat
namespace Go.Proofs.YtblcgjadhemlbaaGreat
set_option linter.unusedSimpArgs false
set_option linter.unusedVariables false
open Go.RowKit
def qz (o:Oper):Oper:={ o with dst:=none,op:= .move (.const undef),guard:=none}
def Ka (ops:Array Oper):Bool:=(List.range ops.size).all λi=>((ops[i]?).map λo=>o.after.all λe=> !Region.binds .any e||decide (e.on<i)).getD true
def U4 (ops:Array Oper) (n:Nat):Bool:=(List.range ops.size).all λi=>((ops[i]?).map λo=>match o.guard with|some (j,_)=> !Nat.beq j n|none=>true).getD true
def UT (ops:Array Oper) (n:Nat):Bool:=
 match ops[n]? with
 |some on=>Nat.beq (n+1) ops.size&&Region.sinkB .any ops n&&Region.chainB .any ops n&&Ka ops&&U4 ops n&&Region.lexB .any (ops.setIfInBounds n (qz on))
 |none=>false
section
variable {P:Program}{ops:Array Oper}{C:World→Prop}{n:Nat}{on:Oper}
theorem QM (hn:ops[n]? =some on) (i:Nat):(ops.setIfInBounds n (qz on))[i]? =if i=n then some (qz on) else ops[i]? :=by
 have hlt:n<ops.size:=(Array.getElem?_eq_some_iff.1 hn).1
 rw[Array.getElem?_setIfInBounds]
 by_cases h:n=i
 ·subst h;simp [hlt]
 ·rw[if_neg h,if_neg (λe=>h e.symm)]
theorem Ot (hn:ops[n]? =some on) (listed:Array Bool):Region.ready .any (ops.setIfInBounds n (qz on)) listed=Region.ready .any ops listed:=by
 unfold Region.ready
 simp only[Array.size_setIfInBounds]
 congr 1
 funext i
 rw[QM hn]
 by_cases h:i=n
 ·subst h;simp [hn,qz]
 ·rw[if_neg h]
theorem Oq (hn:ops[n]? =some on) {j:Nat}(h:j≠n) (tmps:Array Value):yielded (ops.setIfInBounds n (qz on)) tmps j=yielded ops tmps j:=by
 unfold yielded
 rw[QM hn,if_neg h]
theorem Iw {p:Nat→Bool}:∀k,p k=false→∃i,i≤k∧p i=false∧∀j,j<i→p j=true:=by
 intro k
 induction k using Nat.strongRecOn with
 |_ k ih=>
  intro hk
  by_cases h:∃j,j<k∧p j=false
  ·obtain⟨j,hj,hp⟩:=h
   obtain⟨i,h1,h2,h3⟩:=ih j hj hp
   exact⟨i,by omega,h2,h3⟩
  ·refine⟨k,Nat.le_refl _,hk,λj hj=>?_⟩
   cases hp:p j with
   |true=>rfl
   |false=>exact absurd ⟨j,hj,hp⟩ h
theorem Q9 {Q':Exit→Act→World→Prop}(hn:ops[n]? =some on) (hsz:n+1=ops.size) (hs:Region.sinkB .any ops n=true) (hc:Region.chainB .any ops n=true) (hb:Ka ops=true) (hg:U4 ops n=true):
  ∀(fuel:Nat) (listed:Array Bool) (a:Act) (w:World),HeadInv .any ops n listed→C w→
   wpAnyQ P .any (ops.setIfInBounds n (qz on)) C (λa=>∀w,C w→wpList P ops Q' [on] a w) fuel listed a→wpAny P .any ops Q' fuel listed a w:=by
 have hnlt:n<ops.size:=by omega
 have hready:∀listed,HeadInv .any ops n listed→Region.ready .any ops listed≠[]:=by
  intro listed inv h0
  have hun:listed.getD n true=false:=inv.tail n (Nat.le_refl _) hnlt
  obtain⟨i,h1,h2,h3⟩:=Iw (p:=λi=>listed.getD i true) n hun
  have hilt:i<ops.size:=by omega
  have hi:i∈Region.ready .any ops listed:=by
   refine mem_ready.2 ⟨h2,ops[i],by simp [hilt],λe he hbi=>?_⟩
   have h4:=List.all_eq_true.1 hb i (List.mem_range.2 hilt)
   have h5:ops[i]? =some ops[i]:=by simp [hilt]
   rw[h5] at h4
   simp only[Option.map_some,Option.getD_some,Array.all_eq_true_iff_forall_mem] at h4
   have h6:=h4 e he
   simp only[hbi,Bool.not_true,Bool.false_or,decide_eq_true_eq] at h6
   have h7:=h3 e.on h6
   have h8:e.on<listed.size:=by rw[inv.size];omega
   simp only[Array.getD_eq_getD_getElem?,Array.getElem?_eq_getElem h8,Option.getD_some] at h7 ⊢
   exact h7
  rw[h0] at hi
  cases hi
 intro fuel
 induction fuel with
 |zero=>
  intro listed a w inv _ h
  have h1:=h.1
  rw[Ot hn] at h1
  exact absurd h1 (hready listed inv)
 |succ fuel ih=>
  intro listed a w inv hw h
  refine⟨λh0=>absurd h0 (hready listed inv),λi hi=>?_⟩
  have hi':i∈Region.ready .any (ops.setIfInBounds n (qz on)) listed:=by rw[Ot hn];exact hi
  have h1:=h.2 i hi'
  obtain⟨hun,oi,hoi,_⟩:=mem_ready.1 hi
  have hilt:i<ops.size:=(Array.getElem?_eq_some_iff.1 hoi).1
  by_cases hin:i=n
  ·subst hin
   have hon:oi=on:=Option.some.inj (hoi.symm.trans hn)
   subst hon
   have hall:∀j,j<i→listed.getD j true=true:=by
    intro j hj
    cases hl:listed.getD j true with
    |true=>rfl
    |false=>exact absurd hi (tail_waits hs hc hnlt inv _ j rfl hj hl i (Nat.le_refl _))
   have hempty:Region.ready .any ops (listed.setIfInBounds i true)=[]:=by
    apply List.eq_nil_iff_forall_not_mem.2
    intro j hj
    obtain⟨hj1,oj,hoj,_⟩:=mem_ready.1 hj
    have hjlt:j<ops.size:=(Array.getElem?_eq_some_iff.1 hoj).1
    have hs':i<listed.size:=by rw[inv.size];omega
    have hjs:j<listed.size:=by rw[inv.size];omega
    simp only[Array.getD_eq_getD_getElem?,Array.getElem?_setIfInBounds] at hj1
    by_cases e:i=j
    ·subst e;simp [hs'] at hj1
    ·rw[if_neg e] at hj1
     have:=hall j (by omega)
     simp only[Array.getD_eq_getD_getElem?] at this
     rw[this] at hj1
     cases hj1
   unfold qOp at h1
   rw[QM hn,if_pos rfl] at h1
   simp only at h1
   rw[if_pos (by simp [Region.wanted,qz])] at h1
   obtain⟨v,_,h2⟩:=h1
   have hk:∀w,C w→wpList P ops Q' [oi] a w:=by
    cases fuel with
    |zero=>exact h2.2
    |succ f=>exact h2.1 (by rw[Ot hn];exact hempty)
   have h3:=hk w hw
   unfold wpOp
   simp only[hn]
   unfold wpList at h3
   have hQ:∀a' w',wpList P ops Q' [] a' w'→wpAny P .any ops Q' fuel (listed.setIfInBounds i true) a' w':=by
    intro a' w' hq
    cases fuel with
    |zero=>exact⟨hempty,hq⟩
    |succ f=>exact⟨λ_=>hq,λj hj=>by rw[hempty] at hj;cases hj⟩
   split
   ·rename_i hw'
    rw[if_pos hw'] at h3
    exact h3.imp (Oper.wp_mono hQ) id
   ·rename_i hw'
    rw[if_neg hw'] at h3
    exact hQ _ _ h3
  ·have hin':i<n:=by omega
   have h4:=wpOp_of_qOp (Q':=Q') hw (K':=wpAny P .any ops Q' fuel (listed.setIfInBounds i true)) (λa' w' hw' h'=>ih _ a' w' (inv.set hi hin') hw' h') h1
   unfold wpOp at h4 ⊢
   rw[QM hn,if_neg hin] at h4
   simp only[hoi] at h4 ⊢
   have hwant:Region.wanted oi (yielded (ops.setIfInBounds n (qz on)) a.tmps)=Region.wanted oi (yielded ops a.tmps):=by
    have h5:=List.all_eq_true.1 hg i (List.mem_range.2 hilt)
    rw[hoi] at h5
    simp only[Option.map_some,Option.getD_some] at h5
    unfold Region.wanted
    cases hgd:oi.guard with
    |none=>rfl
    |some g=>
     obtain⟨j,b⟩:=g
     rw[hgd] at h5
     simp only[Bool.not_eq_true'] at h5
     have hj:j≠n:=λe=>by subst e;simp at h5
     simp only[Oq hn hj]
   rw[hwant] at h4
   exact h4
theorem Lc {ops':Array Oper}{Q:Act→Prop}(hy:∀(j:Nat) (tmps:Array Value),j<n→yielded ops' tmps j=yielded ops tmps j):
  ∀(l:List Oper) (a:Act),(∀o∈l,∀j b,o.guard=some (j,b)→j<n)→wpQuiet P ops C Q l a→wpQuiet P ops' C Q l a
 |[],_,_,h=>h
 |o::l,a,hl,h=>by
  have hw:Region.wanted o (yielded ops' a.tmps)=Region.wanted o (yielded ops a.tmps):=by
   unfold Region.wanted
   cases hgd:o.guard with
   |none=>rfl
   |some g=>obtain⟨j,b⟩:=g;simp only;rw[hy j _ (hl o (by simp) j b hgd)]
  unfold wpQuiet at h ⊢
  rw[hw]
  split
  ·rename_i hh
   rw[if_pos hh] at h
   obtain⟨v,h1,h2⟩:=h
   exact⟨v,h1,Lc hy l _ (λo ho=>hl o (by simp [ho])) h2⟩
  ·rename_i hh
   rw[if_neg hh] at h
   exact Lc hy l _ (λo ho=>hl o (by simp [ho])) h
def XY (l:List Oper) (n:Nat):Bool:=l.all λo=>match o.guard with|some (j,_)=>Nat.blt j n|none=>true
theorem Oc {l:List Oper}{id:Nat}{Q':Exit→Act→World→Prop}{a:Act}{w:World}{rd:Option Nat}(hrd:RD rd (.region id l.toArray true)) (hQ:∀a w,¬Q' .outgrown a w) (n:Nat) (hm:P.follows .mixedOrders=true) (hB:UT l.toArray n=true) (hgl:XY (l.take n) n=true) (hC:C { w with drawn:=w.drawn+1})
  (h:wpQuiet P l.toArray C (λa=>∀w,C w→wpList P l.toArray Q' (l.drop n) a w) (l.take n) a):(Code.region id l.toArray true).wpIn (FF rd) 0 P Q' a w:=by
 unfold UT at hB
 split at hB
 ·rename_i on hn
  simp only[Bool.and_eq_true] at hB
  obtain⟨⟨⟨⟨⟨h1,h2⟩,h3⟩,h4⟩,h5⟩,h6⟩:=hB
  have hsz:=Nat.eq_of_beq_eq_true h1
  have hlen:n+1=l.length:=by simpa using hsz
  have hdrop:l.drop n=[on]:=by
   have hn':l[n]? =some on:=by simpa using hn
   have hlt:n<l.length:=by omega
   rw[List.drop_eq_getElem_cons hlt,List.drop_eq_nil_of_le (by omega)]
   have:=List.getElem?_eq_getElem hlt
   rw[hn'] at this
   rw[←Option.some.inj this]
  rw[hdrop] at h
  have hl':(l.toArray.setIfInBounds n (qz on)).toList=l.take n++[qz on]:=by
   have hlt:n<l.length:=by omega
   rw[List.setIfInBounds_toArray,List.set_eq_take_append_cons_drop,if_pos hlt,List.drop_eq_nil_of_le (by omega)]
  have hq:wpQuiet P (l.toArray.setIfInBounds n (qz on)) C (λa=>∀w,C w→wpList P l.toArray Q' [on] a w) (l.take n++[qz on]) a:=by
   refine Ss n (λa=>∀w,C w→wpList P l.toArray Q' [on] a w) ?_ λa' ha=>?_
   ·have e:(l.take n++[qz on]).take n=l.take n:=by
     have:(l.take n).length=n:=by simp;omega
     rw[List.take_append_of_le_length (by omega),List.take_take,Nat.min_self]
    rw[e]
    refine Lc (n:=n) (λj tmps hj=>Oq hn (by omega) tmps) _ _ (λo ho j b hob=>?_) h
    have:=List.all_eq_true.1 hgl o ho
    rw[hob] at this
    have h8:j+1≤n:=by simpa [Nat.blt] using this
    omega
   ·have e:(l.take n++[qz on]).drop n=[qz on]:=by
     have:(l.take n).length=n:=by simp;omega
     rw[List.drop_append_of_le_length (by omega),List.drop_eq_nil_of_le (by omega),List.nil_append]
    rw[e]
    unfold wpQuiet
    rw[if_pos (by simp [Region.wanted,qz])]
    exact⟨undef,λw _=>by unfold Oper.quietAt;simp [execOp,qz,Act.eval,Oper.quietUpon],ha⟩
  simp only[Region.lexB,Bool.and_eq_true] at h6
  refine Ll hrd hQ hm ?_
  have hsz':(l.toArray.setIfInBounds n (qz on)).size=l.toArray.size:=by simp
  have hlen2:(l.take n++[qz on]).length=l.toArray.size:=by rw[←hl',Array.length_toList,hsz']
  have inv0:HeadInv .any l.toArray n (Array.replicate l.toArray.size false):=
   ⟨by simp,λj oj _ hl=>(by rw[getD_replicate_false] at hl;cases hl),λt _ ht=>getD_in (by simpa using ht) (getD_replicate_false _ _)⟩
  have hlex:=wpAnyQ_lex (P:=P) (C:=C) (md:= .any) h6.1 (l.take n++[qz on]) 0 (Array.replicate l.toArray.size false) a (λj=>by rw[←hl'];simp) (by rw[hlen2,←hsz'];exact h6.2) hq
  rw[hlen2] at hlex
  exact Q9 hn hsz h2 h3 h4 h5 _ _ _ _ inv0 hC hlex
 ·cases hB
end
section
variable {P:Program}{ex:List (Nat×AP)}{R N:AP}{cs:List Code}{B:World}{h:Aq}{n:FN}{m:SM}{S:Nat→Prop}{L:List HP}
theorem JM {l:List Oper}{id:Nat}(j:Nat) (hm:P.follows .mixedOrders=true) (hB:UT l.toArray j=true) (hgl:XY (l.take j) j=true) (hs:St S L h)
  (k:QF P l.toArray (Cl B h) (λa=>∀w h',Wd B h' w→St S L h'→B8 S h S h'→wpList P l.toArray (Qx ex R (W P ex R cs N)) (l.drop j) a w) (l.take j) n m):WF P ex R (.region id l.toArray true::cs) N B h n m:=by
 intro a w hf hw rd hd
 refine Oc hd Kf (C:=Cl B h) j hm hB hgl ⟨h,hw.drew,BA.refl h⟩ ?_
 refine Ss j (λa=>∀w h',Wd B h' w→St S L h'→B8 S h S h'→wpList P l.toArray (Qx ex R (W P ex R cs N)) (l.drop j) a w) (by rw[List.take_take,Nat.min_self];exact k a hf) λa' ha=>?_
 have e:(l.take j).drop j=[]:=by rw[List.drop_eq_nil_of_le];simp;omega
 rw[e]
 exact λw' ⟨h',k1,k2⟩=>ha w' h' k1 (k2.st hs) (k2.ext hs.1)
theorem IJ {ops:Array Oper}{C}{Q:Exit→Act→World→Prop}{l:List Oper}(k:∀h',St S L h'→B8 S h S h'→LF P ops Q l B h' n m):QF P ops C (λa=>∀w h',Wd B h' w→St S L h'→B8 S h S h'→wpList P ops Q l a w) [] n m:=
 λa hf w h' hw s e=>k h' s e a w hf hw
end
end Go.Proofs.YtblcgjadhemlbaaGreat
