import Derived.Test.YtibidnaedddfdaaGreatACore14
import Derived.Lib.SliceRun
namespace Go.Proofs.YtibidnaedddfdaaGreat
open Go.RowKit
set_option linter.unusedVariables false
set_option linter.unusedSimpArgs false
section
variable {P:Program}{ops:Array Oper}{C:World→Prop}{Q:Act→Prop}{n:FN}{m m':SM}{rest:List Oper}
variable {d:Nat}{ty:TypeId}{pos:String}{af:Array Edge}{X Y Z:Operand}{t t1 t2:TypeId}{v:Value}{S:Nat→Prop}{L:List HP}{h:Ad}
theorem Dj {ad:Addr}(hx:BG m X=some (.pointer (some ad))) (hd:Nat.blt d n.1=true) (k:QF P ops C Q rest n ((d,.pointer (some ad))::m)):QF P ops C Q (⟨some d,.nilCheck X,ty,pos,af,none⟩::rest) n m:=λa hf=>
 D2 hf hd (λw _=>by simp [execOp,hf.eval hx]) k
theorem UE {k0:Nat}{q:Value}(hx:BG m X=some q) (ep:EP v k0 q) (hd:Nat.blt d n.1=true) (k:QF P ops C Q rest n ((d,q)::m)):QF P ops C Q (⟨some d,.nilCheck X,ty,pos,af,none⟩::rest) n m:=by
 obtain⟨g,n',c,e1,rfl⟩:=ep
 exact Dj hx hd k
def Xm (P:Program) (t j off ft:Nat) (sz:Nat) (ag:Bool):Bool:=
 match P.underlying t with
 |some (.struct fs)=>(match fs[j]? with|some f=>Nat.beq f.offset off&&Nat.beq f.type ft&&GP P ft sz ag|none=>false)
 |_=>false
theorem Rq {ft sz:Nat}{ag:Bool}(h:GP P ft sz ag=true) (w:World):(isAgg ft).run P w= .ok ag w∧(sizeOf ft).run P w= .ok sz w:=by
 obtain⟨i,dd,h1,h2,h3,h4⟩:=Lz h
 refine⟨?_,by simp [sizeOf,typeInfo,h1,h3]⟩
 subst h4
 simp only[isAgg,Sem.run_bind,run_underlying h2,Result.andThen_ok]
 cases dd<;>rfl
theorem QF.fld {xs:Array Value}{j off ft sz:Nat}{ag:Bool}{u:Value}(hx:BG m X=some (.agg xs)) (ht:Xm P t j off ft sz ag=true) (hu:(if ag then some (.agg (xs.extract off (off+sz))) else xs[off]?)=some u) (hd:Nat.blt d n.1=true) (k:QF P ops C Q rest n ((d,u)::m)):QF P ops C Q (⟨some d,.field t X j,ty,pos,af,none⟩::rest) n m:=λa hf=>by
 unfold Xm at ht
 split at ht
 ·rename_i fs hfs
  split at ht
  ·rename_i f hj
   simp only[Bool.and_eq_true] at ht
   obtain⟨⟨e1,e2⟩,e3⟩:=ht
   have e1:=Nat.eq_of_beq_eq_true e1
   have e2:=Nat.eq_of_beq_eq_true e2
   subst e1;subst e2
   refine D2 hf hd (λw _=>?_) k
   obtain⟨g1,g2⟩:=Rq e3 w
   cases ag
   ·simp only[Bool.false_eq_true,if_false] at hu
    simp [execOp,hf.eval hx,Instr.field,run_underlying hfs,hj,asAgg,part,g1,hu]
   ·simp only[if_true,Option.some.injEq] at hu
    simp [execOp,hf.eval hx,Instr.field,run_underlying hfs,hj,asAgg,part,g1,g2,hu]
  ·cases ht
 ·cases ht
theorem QZ {ad:Addr}{l c:Nat}(hx:BG m X=some (.slice (some ad) l c)) (hy:BG m Y=some (.slice none 0 0)) (hd:Nat.blt d n.1=true) (hu:∃e,P.underlying t1=some (.slice e)) (k:QF P ops C Q rest n ((d,.bool false)::m)):QF P ops C Q (⟨some d,.binOp .eql t1 X Y t2,ty,pos,af,none⟩::rest) n m:=λa hf=>by
 obtain⟨e,hu⟩:=hu
 refine D2 hf hd (λw _=>?_) k
 have hg:(eqGuard .eql t1 X Y (.slice (some ad) l c) (.slice none 0 0)).run P w= .ok () w:=by unfold eqGuard;simp
 have hr:=Lib.run_eql_slice_nil (P:=P) w t1 e (some ad) l c 0 0 hu
 simp [execOp,hf.eval hx,hf.eval hy,hg,hr]
theorem PE (hx:BG m X=some (.slice none 0 0)) (hy:BG m Y=some (.slice none 0 0)) (hd:Nat.blt d n.1=true) (hu:∃e,P.underlying t1=some (.slice e)) (k:QF P ops C Q rest n ((d,.bool true)::m)):QF P ops C Q (⟨some d,.binOp .eql t1 X Y t2,ty,pos,af,none⟩::rest) n m:=λa hf=>by
 obtain⟨e,hu⟩:=hu
 refine D2 hf hd (λw _=>?_) k
 have hg:(eqGuard .eql t1 X Y (.slice none 0 0) (.slice none 0 0)).run P w= .ok () w:=by unfold eqGuard;simp
 have hr:=Lib.run_eql_slice_nil (P:=P) w t1 e none 0 0 0 0 hu
 simp [execOp,hf.eval hx,hf.eval hy,hg,hr]
end
theorem St.bxAll {α}{r:AW α}{x:α}{b T:Nat}{cs:List Value}{S:Nat→Prop}{L:List HP}{h:Ad}(hs:St S L h) (hm:Bx b T cs∈L) (hr:r.rd S h cs x):Pt (λb=>b<h.size) h r (.pointer (some ⟨b,0,none⟩)) x:=by
 obtain⟨F,k,h2⟩:=hs.get hm
 refine⟨cs,⟨⟨b,0,none⟩,rfl,rfl,(h2 b ((k.1 b).2 rfl)).1,λj hj=>?_⟩,r.mono hr (λb hb=>hs.1 b hb) λ_ _=>rfl⟩
 rw[Nat.zero_add]
 exact Bx.cell k j
theorem Sl.cases {α}{S:Nat→Prop}{h:Ad}{r:AW α}{v:Value}{l:List α}(k:Sl S h r v l):(v= .slice none 0 0∧l=[])∨∃(ad:Addr) (cap:Nat),v= .slice (some ad) l.length cap∧Sl S h r (.slice (some ad) l.length cap) l:=by
 rcases k with k|⟨ad,cap,h1,h2⟩
 ·exact .inl k
 ·exact .inr ⟨ad,cap,h1,.inr ⟨ad,cap,rfl,h2⟩⟩
section
variable {P:Program}{ops:Array Oper}{Q:Exit→Act→World→Prop}{n:FN}{m:SM}{rest:List Oper}
variable {d:Nat}{ty:TypeId}{pos:String}{af:Array Edge}{X Y:Operand}{B w:World}{h:Ad}{S:Nat→Prop}{L L2:List HP}{v:Value}
theorem Qd {α}{r:AW α}{T e sz by_:Nat}{z:List Value}(he:Lt P T=some (e,sz,by_,z)) (hrs:r.sz=sz) (hd:Nat.blt d n.1=true) (hs:St S L h)
  (k:∀v h',St S (OS r e v []::L) h'→BO S h S h'→LF P ops Q rest B h' n ((d,v)::m)):LF P ops Q (⟨some d,.buildSlice T 0 #[],ty,pos,af,none⟩::rest) B h n m:=by
 intro a w hf hw
 refine wpList_plain rfl λK hK=>?_
 unfold Oper.wp
 obtain⟨i,zv,h1,h2,h3,h4,h5,h6,h7,h8⟩:=ID he
 have hrun:(execOp a.eval ⟨some d,.buildSlice T 0 #[],ty,pos,af,none⟩).run P w= .ok (.value (.slice (some ⟨w.heap.size,0,none⟩) 0 0)) (w.alloc (.cells #[] e)):=by
  simp [execOp,Instr.buildSlice,run_underlying h1,sizeOf,typeInfo,h2,Instr.fill,newRow]
  have e0:Array.range 0= #[]:=by simp
  rw[e0];simp
 rw[hrun]
 have hsz:=hw.heap
 obtain⟨g1,g2⟩:=hs.add (h':=h.push (.cells #[] e)) (H':=OS r e (.slice (some ⟨h.size,0,none⟩) 0 0) []) (by simp) (λb hb=>DO _ _ _ hb) ⟨λb=>b=h.size,.inr ⟨h.size,0,#[],rfl,λ_=>Iff.rfl,G8 _ _,Nat.le_refl _,by unfold maxLen;omega,by simp,by simp [IT]⟩,λb hb=>by subst hb;simp⟩
 exact hK _ _ (k _ _ (by rw[hsz];exact g1) g2 _ _ (hf.put hd _) (hw.alloc _))
end
def Mn (ops:Array Oper):List Nat→Prop
 |s::t::r=>Region.waitsFor .any ops t s=true∧Mn ops (t::r)
 |_=>True
def MO (ops:Array Oper):List Nat→Bool
 |s::t::r=>Region.waitsFor .any ops t s&&MO ops (t::r)
 |_=>true
theorem LK {ops:Array Oper}:∀{ks:List Nat},MO ops ks=true→Mn ops ks
 |[],_=>trivial
 |[_],_=>trivial
 |s::t::r,h=>by
  simp only[MO,Bool.and_eq_true] at h
  exact⟨h.1,LK h.2⟩
theorem Jt {ops:Array Oper}:∀{r:List Nat}{s:Nat},Mn ops (s::r)→∀j,j∈r→∃p,p∈s::r∧Region.waitsFor .any ops j p=true
 |[],_,_,j,hj=>by cases hj
 |t::r,s,⟨h1,h2⟩,j,hj=>by
  rcases List.mem_cons.1 hj with rfl|hj
  ·exact⟨s,by simp,h1⟩
  ·obtain⟨p,hp,hw⟩:=Jt h2 j hj
   exact⟨p,List.mem_cons_of_mem _ hp,hw⟩
def Pc (ops:Array Oper) (ks F:List Nat):Bool:=
 (List.range ops.size).all λi=>ks.contains i||(F.contains i||(List.range ops.size).any λj=>decide (i<j)&&((!ks.contains j&& !F.contains j)||ks.head? ==some j)&&Region.waitsFor .any ops j i)
def NN (ops:Array Oper) (ks:List Nat):Bool:=
 (List.range ops.size).all λi=>ks.contains i||((ops[i]?).map λo=>o.after.all λe=> !Region.binds .any e|| !ks.contains e.on).getD true
def Sj (ops:Array Oper) (ks:List Nat) (n:FN) (m:List Nat):Bool:=
 (List.range ops.size).all λi=>ks.contains i||match D7 ops i with
  |some d=>Nat.blt d n.1&& !(m.contains d)&&(List.range ops.size).all λj=>ks.contains j||Nat.beq i j|| !((D7 ops j).any (Nat.beq d ·))
  |none=>false
structure N1 (ops:Array Oper) (ks:List Nat) (listed:Array Bool):Prop where
 size:listed.size=ops.size
 closed:∀j oj,ops[j]? =some oj→listed.getD j false=true→∀e∈oj.after,Region.binds .any e=true→listed.getD e.on false=true
 tail:∀t,t∈ks→listed.getD t true=false
theorem N1.set {ops:Array Oper}{ks:List Nat}{i:Nat}{listed:Array Bool}(inv:N1 ops ks listed) (hi:i∈Region.ready .any ops listed) (hin:i∉ks):N1 ops ks (listed.setIfInBounds i true):=by
 obtain⟨_,oi,hoi,hall⟩:=mem_ready.1 hi
 refine⟨by simp [inv.size],λj oj hj hl e he hb=>?_,λt ht=>by rw[getD_set_ne true (λe:i=t=>hin (by rw[e];exact ht))];exact inv.tail t ht⟩
 by_cases hij:i=j
 ·subst hij
  have:oj=oi:=Option.some.inj (hj.symm.trans hoi)
  subst this
  exact getD_set_true (hall e he hb)
 ·rw[getD_set_ne false hij] at hl
  exact getD_set_true (inv.closed j oj hj hl e he hb)
theorem FR {P:Program}{ops:Array Oper}{Q Q':Exit→Act→World→Prop}(hq:∀e a w,Q e a w→Q' e a w):∀(l:List Oper) (a:Act) (w:World),wpList P ops Q l a w→wpList P ops Q' l a w
 |[],a,w,h=>by unfold wpList at h ⊢;exact hq _ _ _ h
 |o::l,a,w,h=>by
  unfold wpList at h ⊢
  split
  ·rename_i hg
   rw[if_pos hg] at h
   rcases h with h1|⟨h1,a0,w0,h2⟩
   ·refine .inl ?_
    unfold Oper.wp at h1 ⊢
    generalize (execOp a.eval o).run P w=r at h1
    cases r with
    |ok nx w'=>
     cases nx<;>simp only[Oper.upon] at h1 ⊢
     case value v=>exact FR hq l _ _ h1
     case skip=>exact FR hq l _ _ h1
     case defer d=>exact FR hq l _ _ h1
     case enter f args=>
      refine h1.mono λe w'' he=>?_
      cases e with
      |returned v=>exact FR hq l _ _ he
      |panicked c=>exact hq _ _ _ he
      |outgrown=>obtain⟨a0,w0,h0⟩:=he;exact⟨a0,w0,hq _ _ _ h0⟩
     case row r args=>obtain h1:=h1;exact Rows.mono h1 λv w'' hv=>FR hq l _ _ hv
    |halt x w'=>cases x<;>simp only[Oper.upon] at h1 ⊢ <;>first|exact hq _ _ _ h1|exact h1
   ·exact .inr ⟨h1,a0,w0,hq _ _ _ h2⟩
  ·rename_i hg
   rw[if_neg hg] at h
   exact FR hq l _ _ h
theorem RQ {R:AR}{h:Ad}{K K':SM→Prop}(hk:∀fr,K fr→K' fr):∀(js:List (Nat×Nat)) (fr:SM),PA R h K js fr→PA R h K' js fr
 |[],fr,k=>hk fr k
 |(_,d)::js,fr,k=>λu hu=>RQ hk js ((d,u)::fr) (k u hu)
theorem PA.imp {R:AR}{h:Ad}{K K':SM→Prop}(hk:∀fr,K fr→K' fr) (js:List (Nat×Nat)) (fr:SM) (k:PA R h K js fr):PA R h K' js fr:=RQ hk js fr k
def Mo:Value→Option Nat
 | .pointer (some ⟨b,0,none⟩)=>some b
 | .slice (some ⟨b,0,none⟩) _ _=>some b
 |_=>none
def RT (h:Ad) (v:Value):Prop:=∃b,Mo v=some b∧h.size≤b
def UK (DS:List Nat) (f:Nat→Option Value):Prop:=∀s,s∈DS→∀s',s'∈DS→s≠s'→∀u u',f s=some u→f s'=some u'→∀b b',Mo u=some b→Mo u'=some b'→b≠b'
def Rs (ops:Array Oper) (As:List Nat):List Nat:=As.filterMap λi=>D7 ops i
structure ZB where
 zs:List (Nat×List Nat)
 f:Nat→List (Option Value)→Option Value
def ZB.none:ZB:=⟨[],λ_ _=>Option.none⟩
structure P7 (B:World) (h0:Ad) (n:FN) (m:SM) (ops:Array Oper) (ks As:List Nat) (Z:ZB) (R:AR) (listed:Array Bool) (a:Act) (w:World):Prop where
 ex:∃h,Wd B h w∧Ap h0 h∧Fr n a m∧∀i,i∉ks→listed.getD i false=true→∃d v,D7 ops i=some d∧a.tmps[d]? =some v∧R i v h
 dis:∀i,i∈As→∀j,j∈As→i≠j→listed.getD i false=true→listed.getD j false=true→∀d d' u u',D7 ops i=some d→D7 ops j=some d'→a.tmps[d]? =some u→a.tmps[d']? =some u'→∀b b',Mo u=some b→Mo u'=some b'→b≠b'
 pz:∀z,z∈Z.zs→listed.getD z.1 false=true→∃d v,D7 ops z.1=some d∧a.tmps[d]? =some v∧Z.f z.1 (z.2.map λs=>a.tmps[s]?)=some v
def Wp (ops:Array Oper) (ks:List Nat) (Z:ZB):Prop:=∀z,z∈Z.zs→z.1<ops.size∧z.1∉ks∧∀s,s∈z.2→∃o j,ops[z.1]? =some o∧j∈Mj o∧D7 ops j=some s∧j∉ks
theorem Wp.none {ops:Array Oper}{ks:List Nat}:Wp ops ks ZB.none:=λ_ h=>by cases h
def UL (ops:Array Oper) (ks:List Nat) (zs:List (Nat×List Nat)):Bool:=zs.all λz=> !ks.contains z.1&&match ops[z.1]? with
 |some o=>z.2.all λs=>(Mj o).any λj=> !ks.contains j&&match D7 ops j with|some d=>Nat.beq d s|none=>false
 |none=>false
theorem RU {ops:Array Oper}{ks:List Nat}{Z:ZB}(h:UL ops ks Z.zs=true):Wp ops ks Z:=λz hz=>by
 have h1:=List.all_eq_true.1 h z hz
 simp only[Bool.and_eq_true,Bool.not_eq_true'] at h1
 have h2:=h1.2
 split at h2
 ·rename_i o ho
  refine⟨(Array.getElem?_eq_some_iff.1 ho).1,λhk=>(by rw[List.contains_iff_mem.2 hk] at h1;cases h1.1),λs hs=>?_⟩
  obtain⟨j,hj,h3⟩:=List.any_eq_true.1 (List.all_eq_true.1 h2 s hs)
  simp only[Bool.and_eq_true,Bool.not_eq_true'] at h3
  refine⟨o,j,ho,hj,?_,λhk=>by rw[List.contains_iff_mem.2 hk] at h3;cases h3.1⟩
  have h4:=h3.2
  split at h4
  ·rename_i d hd
   rw[hd,Nat.eq_of_beq_eq_true h4]
  ·cases h4
 ·cases h2
def RF (R:AR) (As:List Nat) (Z:ZB) (i:Nat) (h:Ad) (fr:SM) (v:Value) (h':Ad):Prop:=R i v h'∧(As.contains i=true→RT h v)∧∀sl,(i,sl)∈Z.zs→(∀s,s∈sl→(lk fr s).isSome=true)∧Z.f i (sl.map (lk fr))=some v
def Qe (P:Program) (ops:Array Oper) (Q:Exit→Act→World→Prop) (B:World) (n:FN) (m:SM) (h0:Ad) (R:AR) (As:List Nat) (Z:ZB) (i:Nat) (o:Oper) (d:Nat) (ps:List (Nat×Nat)):Prop:=
 ∀mt h,Ap h0 h→PA R h (λfr=>match o.guard with
  |none=>LF P ops (Exit.then (KS B n d (RF R As Z i h fr) h (fr++(m++mt))) Q) [o] B h n (fr++(m++mt))
  |some (g,b)=>∃dg,D7 ops g=some dg∧((lk fr dg=some (.bool b)∧LF P ops (Exit.then (KS B n d (RF R As Z i h fr) h (fr++(m++mt))) Q) [{ o with guard:=none}] B h n (fr++(m++mt)))∨∃v,lk fr dg=some v∧yb v≠some b∧R i undef h)) ps []
section
variable {P:Program}{ops:Array Oper}{Q:Exit→Act→World→Prop}{a:Act}{w:World}
theorem Kg (hb:KB ops=true):∀(ks:List Nat) (fuel:Nat) (listed:Array Bool) (a:Act) (w:World),N4 listed=fuel→listed.size=ops.size→(∀i,i<ops.size→i∉ks→listed.getD i true=true)→(∀t,t∈ks→t<ops.size∧listed.getD t true=false)→Mn ops ks→ks.Nodup→
  wpList P ops Q (ks.filterMap λt=>ops[t]?) a w→wpAny P .any ops Q fuel listed a w
 |[],fuel,listed,a,w,hu,hs,h1,h2,_,_,h3=>by
  have hr:Region.ready .any ops listed=[]:=K9 λi hi=>h1 i hi (by simp)
  exact wpAny_done hr h3 fuel
 |t::r,fuel,listed,a,w,hu,hs,h1,h2,hc,hnd,h3=>by
  obtain⟨htlt,hut⟩:=h2 t (by simp)
  have hlt:0<N4 listed:=by have:=Jf hut;omega
  obtain⟨fuel,rfl⟩:∃f,fuel=f+1:=⟨fuel-1,by omega⟩
  have only:∀j,j∈Region.ready .any ops listed→j=t:=λj hj=>by
   obtain⟨g1,oj,hoj,hall⟩:=mem_ready.1 hj
   have hjs:=(Array.getElem?_eq_some_iff.1 hoj).1
   by_cases hjk:j∈t::r
   ·rcases List.mem_cons.1 hjk with rfl|hjr
    ·rfl
    ·obtain⟨p,hp,hw⟩:=Jt hc j hjr
     obtain⟨o',ho',e',he',hb',hon⟩:=Region.waitsFor_spec hw
     have:o'=oj:=Option.some.inj (ho'.symm.trans hoj)
     subst this
     have g3:=hall e' he' hb'
     rw[hon,getD_both (h2 p hp).2] at g3
     cases g3
   ·rw[h1 j hjs hjk] at g1;cases g1
  obtain⟨i,_,q2,_⟩:=HX hb hs htlt hut
  refine⟨λh0=>absurd (h0▸q2) (by simp),λj hj=>?_⟩
  have hji:=only j hj
  subst hji
  have hoj:ops[j]? =some ops[j]:=by simp [htlt]
  rw[List.filterMap_cons,hoj] at h3
  simp only at h3
  have hnd':=List.nodup_cons.1 hnd
  have ih:=λa w=>Kg hb r fuel (listed.setIfInBounds j true) a w (by have:=Jf hut;omega) (by simpa using hs)
   (λi hi hir=>by
    by_cases e:i=j
    ·subst e
     have:i<listed.size:=by omega
     simp [Array.getD_eq_getD_getElem?,Array.getElem?_setIfInBounds,this]
    ·rw[getD_set_ne true (λx=>e x.symm)];exact h1 i hi (by simp [e,hir]))
   (λt' ht'=>by
    obtain⟨z1,z2⟩:=h2 t' (by simp [ht'])
    exact⟨z1,by rw[getD_set_ne true (λx:j=t'=>hnd'.1 (by rw[x];exact ht'))];exact z2⟩)
   (by cases r with
    |nil=>trivial
    |cons u r=>exact hc.2) hnd'.2
  unfold wpOp
  simp only[hoj]
  unfold wpList at h3
  split
  ·rename_i hw
   rw[if_pos hw] at h3
   exact h3.imp (Oper.wp_mono ih) id
  ·rename_i hw
   rw[if_neg hw] at h3
   exact ih _ _ h3
theorem PV {ks F:List Nat}{listed:Array Bool}(hs:Pc ops ks F=true) (hc:Mn ops ks) (inv:N1 ops ks listed):
  ∀(d i:Nat),ops.size-i=d→i<ops.size→i∉ks→i∉F→listed.getD i true=false→∀t,t∈ks→t∉Region.ready .any ops listed:=by
 intro d
 induction d using Nat.strongRecOn with
 |_ d ih=>
  intro i hd hi hik hiF hun t ht hr
  obtain⟨_,ot,hot,hall⟩:=mem_ready.1 hr
  have h1:=List.all_eq_true.1 hs i (List.mem_range.2 hi)
  simp only[Bool.or_eq_true,List.contains_iff_mem,hik,hiF,false_or] at h1
  obtain⟨j,hj,hj2⟩:=List.any_eq_true.1 h1
  simp only[Bool.and_eq_true,decide_eq_true_eq,Bool.or_eq_true,Bool.not_eq_true'] at hj2
  obtain⟨⟨hij,hj3⟩,hw⟩:=hj2
  obtain⟨oj,hoj,e,he,hb,hon⟩:=Region.waitsFor_spec hw
  have hjs:j<ops.size:=List.mem_range.1 hj
  rcases hj3 with ⟨hjk,hjF⟩|hjh
  ·cases hl:listed.getD j false with
   |true=>
    have h2:=inv.closed j oj hoj hl e he hb
    rw[hon,getD_both hun] at h2
    cases h2
   |false=>
    have hjs':j<listed.size:=by rw[inv.size];omega
    exact ih (ops.size-j) (by omega) j rfl hjs (λh=>by rw[List.contains_iff_mem.2 h] at hjk;cases hjk) (λh=>by rw[List.contains_iff_mem.2 h] at hjF;cases hjF) (getD_in hjs' hl) t ht hr
  ·cases hks:ks with
   |nil=>rw[hks] at ht;cases ht
   |cons s r=>
    rw[hks] at hjh ht hc
    have hjs2:s=j:=by simpa using hjh
    subst hjs2
    rcases List.mem_cons.1 ht with rfl|htr
    ·have:oj=ot:=Option.some.inj (hoj.symm.trans hot)
     subst this
     have h2:=hall e he hb
     rw[hon,getD_both hun] at h2
     cases h2
    ·obtain⟨p,hp,hw2⟩:=Jt hc t htr
     obtain⟨o',ho',e',he',hb',hon'⟩:=Region.waitsFor_spec hw2
     have:o'=ot:=Option.some.inj (ho'.symm.trans hot)
     subst this
     have g3:=hall e' he' hb'
     rw[hon',getD_both (inv.tail p (by rw[hks];exact hp))] at g3
     cases g3
theorem Nx {B:World}{h0:Ad}{n:FN}{m:SM}{R:AR}(ks D As:List Nat) (Z:ZB) (hZ:Wp ops (ks++D) Z) (hZG:∀z,z∈Z.zs→((ops[z.1]?).bind (·.guard))=none) (hAF:∀i,i∈As→∀v h,R i v h→∃b,Mo v=some b∧b<h.size) (hks:∀t,t∈ks→t<ops.size) (hnd:ks.Nodup) (hb:KB ops=true)
  (F G:List Nat) (hFD:F=[]∨D=[]) (hcut:ks=[]∨Pc ops ks (F++G++D)=true) (hch:Mn ops ks) (hcl:NN ops ks=true) (hsel:Region.noSelect ops=true) (hQ:∀c a w,¬Q (.panic c) a w)
  (hFA:∀f,f∈F→f∉As∧∀sl,(f,sl)∉Z.zs) (hF:∀f,f∈F→(f<ops.size∧f∉ks)∧M1 ops f=true∧∃o d ps,ops[f]? =some o∧o.dst=some d∧P8 ops o ps=true∧M5 P ops n m h0 R f o ps)
  (hown:Sj ops (ks++D) n (m.map (·.1))=true)
  (hmono:∀i v h h',Ap h0 h→Ap h h'→R i v h→R i v h')
  (hAk:∀i,i∈As→i∉ks++D) (step:∀i o d,i∉ks++D→ops[i]? =some o→o.dst=some d→∃ps,P8 ops o ps=true∧(∀p∈ps,p.1∉D)∧Qe P ops Q B n m h0 R As Z i o d ps)
  (fin:∀a w h,Wd B h w→Ap h0 h→Fr n a m→(∀i,i<ops.size→i∉ks++D→∃d v,D7 ops i=some d∧a.tmps[d]? =some v∧R i v h)→UK (Rs ops As) (λs=>a.tmps[s]?)→(∀z,z∈Z.zs→∃d v,D7 ops z.1=some d∧a.tmps[d]? =some v∧Z.f z.1 (z.2.map λs=>a.tmps[s]?)=some v)→wpList P ops Q (ks.filterMap λt=>ops[t]?) a w)
  (mid:G=[]∨((∀f,f∈F→∀o,ops[f]? =some o→∀e,e∈o.after→Region.binds .any e=true→e.on<ops.size∧e.on∉ks∧e.on∉F++G)∧∀k1 ks',ks=k1::ks'→∀(fuel:Nat) (listed:Array Bool) (a:Act) (w:World),N4 listed=fuel+1→N1 ops ks listed→P7 B h0 n m ops (ks++D) As Z R listed a w→(∀i,i<ops.size→i∉ks→i∉G→listed.getD i false=true)→k1∈Region.ready .any ops listed→wpOp P ops Q k1 (wpAny P .any ops Q fuel (listed.setIfInBounds k1 true)) a w)):
  ∀(fuel:Nat) (listed:Array Bool) (a:Act) (w:World),N4 listed=fuel→N1 ops ks listed→(∀i,i∈D→listed.getD i false=true)→P7 B h0 n m ops (ks++D) As Z R listed a w→wpAny P .any ops Q fuel listed a w:=by
 intro fuel
 have hFD':∀f,f∈F→∀x,x∈D→False:=λf hf x hx=>by
  rcases hFD with h|h
  ·rw[h] at hf;cases hf
  ·rw[h] at hx;cases hx
 have mkZ:∀(listed:Array Bool) (a:Act) (w:World),P7 B h0 n m ops (ks++D) As Z R listed a w→(∀i,i<ops.size→i∉ks→listed.getD i false=true)→∀z,z∈Z.zs→∃d v,D7 ops z.1=some d∧a.tmps[d]? =some v∧Z.f z.1 (z.2.map λs=>a.tmps[s]?)=some v:=by
  intro listed a w ai hl z hz
  exact ai.pz z hz (hl z.1 (hZ z hz).1 λh=>(hZ z hz).2.1 (List.mem_append_left _ h))
 have mkDis:∀(listed:Array Bool) (a:Act) (w:World),P7 B h0 n m ops (ks++D) As Z R listed a w→(∀i,i<ops.size→i∉ks→listed.getD i false=true)→UK (Rs ops As) (λs=>a.tmps[s]?):=by
  intro listed a w ai hl s hs s' hs' hne u u' e e'
  obtain⟨i,hi,hd⟩:=List.mem_filterMap.1 hs
  obtain⟨j,hj,hd'⟩:=List.mem_filterMap.1 hs'
  have lt:∀i d,D7 ops i=some d→i<ops.size:=λi d q1=>by
   unfold D7 at q1
   cases hoj:ops[i]? with
   |none=>rw[hoj] at q1;cases q1
   |some oj=>exact(Array.getElem?_eq_some_iff.1 hoj).1
  exact ai.dis i hi j hj (λe=>hne (by subst e;rw[hd] at hd';exact Option.some.inj hd')) (hl i (lt _ _ hd) (λh=>hAk i hi (List.mem_append_left _ h))) (hl j (lt _ _ hd') (λh=>hAk j hj (List.mem_append_left _ h))) _ _ _ _ hd hd' e e'
 induction fuel with
 |zero=>
  intro listed a w hu inv hD ai
  have hall:∀i,listed.getD i true=true:=λi=>NO hu
  obtain⟨h,g1,g2,g3,g4⟩:=ai.ex
  have hall2:∀i,i<ops.size→i∉ks→listed.getD i false=true:=λi his hik=>by
   have h2:=hall i
   have:i<listed.size:=by rw[inv.size];exact his
   simpa [this] using h2
  have hf:=fin a w h g1 g2 g3 (λi his hik=>g4 i hik (hall2 i his λh=>hik (List.mem_append_left _ h))) (mkDis _ _ _ ai hall2) (mkZ _ _ _ ai hall2)
  exact Kg hb ks 0 listed a w hu inv.size (λi _ _=>hall i) (λt ht=>⟨hks t ht,inv.tail t ht⟩) hch hnd hf
 |succ fuel ih=>
  intro listed a w hu inv hD ai
  obtain⟨h,g1,g2,g3,g4⟩:=ai.ex
  by_cases hall:∀i,i<ops.size→i∉ks→listed.getD i true=true
  ·have hall2:∀i,i<ops.size→i∉ks→listed.getD i false=true:=λi his hik=>by
    have h2:=hall i his hik
    have:i<listed.size:=by rw[inv.size];exact his
    simpa [this] using h2
   have hf:=fin a w h g1 g2 g3 (λi his hik=>g4 i hik (hall2 i his λh=>hik (List.mem_append_left _ h))) (mkDis _ _ _ ai hall2) (mkZ _ _ _ ai hall2)
   exact Kg hb ks (fuel+1) listed a w hu inv.size hall (λt ht=>⟨hks t ht,inv.tail t ht⟩) hch hnd hf
  ·have hnot:∀j,listed.getD j false=true→j∉ks:=λj hj hjk=>by
    have:=getD_both (inv.tail j hjk)
    rw[hj] at this
    cases this
   have hpredsG:∀i o,i∈Region.ready .any ops listed→ops[i]? =some o→∀ps,P8 ops o ps=true→(∀p∈ps,p.1∉D)→∀p∈ps,∃v,a.tmps[p.2]? =some v∧R p.1 v h:=by
    intro i o hi ho ps hps hpD p hp
    obtain⟨hun,o',ho',hpre⟩:=mem_ready.1 hi
    have:o'=o:=Option.some.inj (ho'.symm.trans ho)
    subst this
    have h1:=List.all_eq_true.1 hps p hp
    simp only[Bool.and_eq_true] at h1
    have hj:p.1∈Mj o':=by simpa using h1.1
    obtain⟨e,he,hpe⟩:=List.mem_map.1 hj
    obtain⟨he1,he2⟩:=List.mem_filter.1 he
    have he3:e∈o'.after:=by simpa using he1
    have h3:=hpre e he3 he2
    rw[hpe] at h3
    obtain⟨d',v,q1,q2,q3⟩:=g4 p.1 (λh=>(List.mem_append.1 h).elim (hnot _ h3) (hpD p hp)) h3
    have h2:=h1.2
    rw[q1] at h2
    have:p.2=d':=Nat.eq_of_beq_eq_true (by simpa using h2)
    exact⟨v,by rw[this];exact q2,q3⟩
   have nextG:∀i o d,i∉ks→i∉ks++D→i∈Region.ready .any ops listed→ops[i]? =some o→o.dst=some d→∀v w' h',Wd B h' w'→Ap h h'→R i v h'→(i∈As→RT h v)→(∀sl,(i,sl)∈Z.zs→Z.f i (sl.map λs=>a.tmps[s]?)=some v)→wpAny P .any ops Q fuel (listed.setIfInBounds i true) (a.put (some d) v) w':=by
    intro i o d hik hikD hi ho hod v w' h' hw' ho' hr hfr hzr
    obtain⟨hun,oo,hoo,_⟩:=mem_ready.1 hi
    have hilt:i<ops.size:=(Array.getElem?_eq_some_iff.1 hoo).1
    have hd:D7 ops i=some d:=by unfold D7;rw[ho];exact hod
    have hown':=List.all_eq_true.1 hown i (List.mem_range.2 hilt)
    rw[hd] at hown'
    simp only[Bool.and_eq_true,Bool.not_eq_true',List.all_eq_true,List.mem_range,Bool.or_eq_true,List.contains_iff_mem,hikD,false_or] at hown'
    obtain⟨⟨hdn,hdm⟩,hdj⟩:=hown'
    have hdn1:d+1≤n.1:=by simpa [Nat.blt] using hdn
    have hdn':d<n.1:=hdn1
    have putd:(a.put (some d) v).tmps[d]? =some v:=by
     simp only[Act.put,Array.getElem?_setIfInBounds]
     have:=g3.siz
     simp [this,hdn']
    have putj:∀j dj,D7 ops j=some dj→j≠i→j∉ks++D→(a.put (some d) v).tmps[dj]? =a.tmps[dj]? :=by
     intro j dj q1 e hj
     have hjs:j<ops.size:=by
      unfold D7 at q1
      cases hoj:ops[j]? with
      |none=>rw[hoj] at q1;cases q1
      |some oj=>exact(Array.getElem?_eq_some_iff.1 hoj).1
     have h1:=hdj j hjs
     rw[q1] at h1
     have hne:d≠dj:=by
      rcases h1 with (h1|h1)|h1
      ·exact absurd h1 hj
      ·exact absurd (Nat.eq_of_beq_eq_true h1).symm e
      ·intro e'
       subst e'
       simp at h1
     simp only[Act.put,Array.getElem?_setIfInBounds]
     rw[if_neg hne]
    have oldF:∀j,j∈As→j≠i→(listed.setIfInBounds i true).getD j false=true→i∈As→∀dj u,D7 ops j=some dj→(a.put (some d) v).tmps[dj]? =some u→∀b b',Mo v=some b→Mo u=some b'→b≠b':=by
     intro j hj e hl hiA dj u q1 q2 b1 b2 z1 z2
     rw[getD_set_ne false (λx=>e x.symm)] at hl
     rw[putj j dj q1 e (hAk j hj)] at q2
     obtain⟨dj',vj,p1,p2,p3⟩:=g4 j (hAk j hj) hl
     rw[q1] at p1
     cases p1
     rw[q2] at p2
     cases p2
     obtain⟨b,e1,e2⟩:=hAF j hj _ _ p3
     obtain⟨b',e3,e4⟩:=hfr hiA
     rw[z1] at e3
     rw[z2] at e1
     cases e3
     cases e1
     omega
    refine ih _ _ _ (by have:=Jf hun;omega) (inv.set hi hik) (λj hj=>getD_set_true (hD j hj)) ⟨⟨h',hw',g2.trans ho',?_,λj hj hl=>?_⟩,λi1 hi1 j1 hj1 hne1 hl1 hl2 d1 d2 u1 u2 q1 q2 q3 q4=>?_,λz hz hl=>?_⟩
    rotate_left 3
    ·have same:∀(lz:(listed.getD z.1 false=true)∨z.1=i) (s:Nat),s∈z.2→(a.put (some d) v).tmps[s]? =a.tmps[s]? :=by
      intro lz s hs
      obtain⟨oz,j,p1,p2,p3,p4⟩:=(hZ z hz).2.2 s hs
      refine putj j s p3 (λe=>?_) p4
      subst e
      obtain⟨ed,he,hpe⟩:=List.mem_map.1 p2
      obtain⟨he1,he2⟩:=List.mem_filter.1 he
      have he3:ed∈oz.after:=by simpa using he1
      rcases lz with lz|lz
      ·have h3:=inv.closed z.1 oz p1 lz ed he3 he2
       rw[hpe,getD_both hun] at h3
       cases h3
      ·have h4:=List.all_eq_true.1 hb z.1 (List.mem_range.2 (hZ z hz).1)
       rw[p1] at h4
       simp only[Option.map_some,Option.getD_some,Array.all_eq_true_iff_forall_mem] at h4
       have h6:=h4 ed he3
       simp only[he2,Bool.not_true,Bool.false_or,decide_eq_true_eq] at h6
       omega
     by_cases e:z.1=i
     ·refine⟨d,v,by rw[e];exact hd,putd,?_⟩
      rw[List.map_congr_left (same (.inr e)),e]
      exact hzr z.2 (by rw[←e];exact hz)
     ·rw[getD_set_ne false (λx=>e x.symm)] at hl
      obtain⟨dz,vz,p1,p2,p3⟩:=ai.pz z hz hl
      refine⟨dz,vz,p1,by rw[putj z.1 dz p1 e (hZ z hz).2.1];exact p2,?_⟩
      rw[List.map_congr_left (same (.inl hl))]
      exact p3
    rotate_left 2
    ·by_cases e:i1=i
     ·subst e
      rw[hd] at q1
      cases q1
      rw[putd] at q3
      cases q3
      exact oldF j1 hj1 (λe=>hne1 e.symm) hl2 hi1 d2 u2 q2 q4
     ·by_cases e':j1=i
      ·subst e'
       rw[hd] at q2
       cases q2
       rw[putd] at q4
       cases q4
       exact λb b' z1 z2 e2=>oldF i1 hi1 e hl1 hj1 d1 u1 q1 q3 b' b z2 z1 e2.symm
      ·rw[putj i1 d1 q1 e (hAk i1 hi1)] at q3
       rw[putj j1 d2 q2 e' (hAk j1 hj1)] at q4
       rw[getD_set_ne false (λx=>e x.symm)] at hl1
       rw[getD_set_ne false (λx=>e' x.symm)] at hl2
       exact ai.dis i1 hi1 j1 hj1 hne1 hl1 hl2 d1 d2 u1 u2 q1 q2 q3 q4
    ·have hp:=g3.put hdn v
     refine⟨hp.dfr,hp.siz,λi' u hi'=>hp.at_ i' u ?_⟩
     have hne:Nat.beq d i'=false:=by
      cases hb':Nat.beq d i' with
      |false=>rfl
      |true=>
       have:=Nat.eq_of_beq_eq_true hb'
       subst this
       have h1:=QQ hi'
       rw[←List.contains_iff_mem] at h1
       rw[h1] at hdm
       cases hdm
     simp only[lk,hne,cond_false]
     exact hi'
    ·by_cases e:i=j
     ·subst e
      refine⟨d,v,hd,?_,hr⟩
      simp only[Act.put,Array.getElem?_setIfInBounds]
      have:=g3.siz
      simp [this,hdn']
     ·rw[getD_set_ne false e] at hl
      obtain⟨dj,vj,q1,q2,q3⟩:=g4 j hj hl
      refine⟨dj,vj,q1,?_,hmono _ _ _ _ g2 ho' q3⟩
      have hjs:j<ops.size:=by
       unfold D7 at q1
       cases hoj:ops[j]? with
       |none=>rw[hoj] at q1;cases q1
       |some oj=>exact(Array.getElem?_eq_some_iff.1 hoj).1
      have h1:=hdj j hjs
      rw[q1] at h1
      have hne:d≠dj:=by
       rcases h1 with (h1|h1)|h1
       ·exact absurd h1 hj
       ·exact absurd (Nat.eq_of_beq_eq_true h1) e
       ·intro e'
        subst e'
        simp at h1
      simp only[Act.put,Array.getElem?_setIfInBounds]
      rw[if_neg hne]
      exact q2
   by_cases hfl:∃f,f∈F∧f∈Region.ready .any ops listed
   ·obtain⟨f,hf1,hf2⟩:=hfl
    obtain⟨hfk,hfree,o,d,ps,ho,hod,hps,hst⟩:=hF f hf1
    obtain⟨fr,hK,hfr⟩:=IN (a:=a) (n:=n) _ _ (hst (FG a) h g2) (hpredsG f o hf2 ho ps hps λp _ h=>hFD' f hf1 _ h) ⟨g3.dfr,g3.siz,λi v hi=>by simp [lk] at hi⟩
    obtain⟨v,hy,hr⟩:=hK a (hfr.append (g3.append g3.full))
    refine wpAny_first ho (Region.noSelect_spec hsel) (λc a w hq=>absurd hq (hQ c _ w)) fuel listed a w (λj oj hj hne hunj hno=>?_) hf2 hy ?_
    ·have h1:=List.all_eq_true.1 hfree j (List.mem_range.2 (Array.getElem?_eq_some_iff.1 hj).1)
     simp only[ho,hj,Bool.or_eq_true,beq_iff_eq,hne,false_or] at h1
     rcases h1 with h1|h1
     ·obtain⟨oj',hoj',e,he,hb',hon⟩:=Region.waitsFor_spec h1
      have:oj'=oj:=Option.some.inj (hoj'.symm.trans hj)
      subst this
      exact absurd hon (hno e he hb')
     ·rcases h1 with h1|h1
      ·obtain⟨of',hof',e,he,hb',hon⟩:=Region.waitsFor_spec h1
       obtain⟨_,of2,hof2,hall2⟩:=mem_ready.1 hf2
       have:of'=of2:=Option.some.inj (hof'.symm.trans hof2)
       subst this
       have h5:=hall2 e he hb'
       rw[hon,getD_both hunj] at h5
       cases h5
      ·exact h1
    ·rw[hod]
     exact nextG f o d hfk.2 (λh=>(List.mem_append.1 h).elim hfk.2 λh=>hFD' f hf1 _ h) hf2 ho hod v w h g1 (Ap.refl h) hr (λhA=>absurd hA (hFA f hf1).1) λsl hsl=>absurd hsl ((hFA f hf1).2 sl)
   have hkk:∃k0,k0<ops.size∧k0∉ks∧listed.getD k0 true=false∧k0∉F:=by
    obtain⟨k1,hk1s,hk1,hu1⟩:∃k1,k1<ops.size∧k1∉ks∧listed.getD k1 true=false:=by
     apply Classical.byContradiction
     intro hno
     refine hall λi his hik=>?_
     cases hl:listed.getD i true with
     |true=>rfl
     |false=>exact absurd ⟨i,his,hik,hl⟩ hno
    obtain⟨i0,q1,q2,q3⟩:=Ji (p:=λi=>listed.getD i true||ks.contains i) k1 (by simp [hu1,hk1])
    simp only[Bool.or_eq_false_iff] at q2
    have hi0s:i0<ops.size:=by omega
    have hi0k:i0∉ks:=λh=>by rw[List.contains_iff_mem.2 h] at q2;cases q2.2
    refine⟨i0,hi0s,hi0k,q2.1,λhf=>hfl ⟨i0,hf,mem_ready.2 ⟨q2.1,ops[i0],by simp [hi0s],λe he hbi=>?_⟩⟩⟩
    have h4:=List.all_eq_true.1 hb i0 (List.mem_range.2 hi0s)
    have h5:ops[i0]? =some ops[i0]:=by simp [hi0s]
    rw[h5] at h4
    simp only[Option.map_some,Option.getD_some,Array.all_eq_true_iff_forall_mem] at h4
    have h6:=h4 e he
    simp only[hbi,Bool.not_true,Bool.false_or,decide_eq_true_eq] at h6
    have h7:=q3 e.on h6
    have h9:=List.all_eq_true.1 hcl i0 (List.mem_range.2 hi0s)
    simp only[Bool.or_eq_true,List.contains_iff_mem,hi0k,false_or,h5,Option.map_some,Option.getD_some,Array.all_eq_true_iff_forall_mem] at h9
    have h10:=h9 e he
    simp only[hbi,Bool.not_true,Bool.false_or,Bool.not_eq_true'] at h10
    rcases h10 with h10|h10
    ·cases h10
    rw[h10,Bool.or_false] at h7
    have h8:e.on<listed.size:=by rw[inv.size];omega
    simp only[Array.getD_eq_getD_getElem?,Array.getElem?_eq_getElem h8,Option.getD_some] at h7 ⊢
    exact h7
   have ⟨k0',hk0s',hk0',hu0',_⟩:=hkk
   obtain⟨i0,_,hi0,_⟩:=HX hb inv.size hk0s' hu0'
   refine⟨λh0=>absurd (h0▸hi0) (by simp),λi hi=>?_⟩
   obtain⟨hun,o,ho,hpre⟩:=mem_ready.1 hi
   have hilt:i<ops.size:=(Array.getElem?_eq_some_iff.1 ho).1
   by_cases hikm:i∈ks∧∀k0,k0<ops.size→k0∉ks→k0∉F++G→listed.getD k0 false=true
   ·rcases mid with hG|⟨hF0,mid⟩
    ·obtain⟨k0,q1,q2,q3,q4⟩:=hkk
     have:=hikm.2 k0 q1 q2 (by rw[hG,List.append_nil];exact q4)
     rw[getD_both q3] at this
     cases this
    ·cases hks':ks with
     |nil=>rw[hks'] at hikm;cases hikm.1
     |cons k1 ks'=>
      have hi1:i=k1:=by
       have hm:=hikm.1
       rw[hks'] at hm
       rcases List.mem_cons.1 hm with e|hjr
       ·exact e
       ·rw[hks'] at hch
        obtain⟨p,hp,hw⟩:=Jt hch i hjr
        obtain⟨o',ho',e',he',hb',hon⟩:=Region.waitsFor_spec hw
        have:o'=o:=Option.some.inj (ho'.symm.trans ho)
        subst this
        have g3:=hpre e' he' hb'
        rw[hon,getD_both (inv.tail p (by rw[hks'];exact hp))] at g3
        cases g3
      subst hi1
      refine mid i ks' hks' fuel listed a w hu inv ai (λj q1 q2 q3=>?_) hi
      by_cases hjF:j∈F
      ·cases hl:listed.getD j false with
       |true=>rfl
       |false=>
        refine absurd ⟨j,hjF,mem_ready.2 ⟨getD_in (by rw[inv.size];exact q1) hl,ops[j],by simp [q1],λe he hb'=>?_⟩⟩ hfl
        obtain⟨z1,z2,z3⟩:=hF0 j hjF _ (by simp [q1]) e he hb'
        exact hikm.2 e.on z1 z2 z3
      ·exact hikm.2 j q1 q2 (λh=>(List.mem_append.1 h).elim hjF q3)
   have hik:i∉ks:=λhik=>by
    rcases hcut with hc|hc
    ·rw[hc] at hik;cases hik
    ·refine hikm ⟨hik,λk0 q1 q2 q3=>?_⟩
     cases hl:listed.getD k0 false with
     |true=>rfl
     |false=>exact absurd hi (PV hc hch inv _ k0 rfl q1 q2 (λh=>(List.mem_append.1 h).elim q3 λh=>by rw[hD k0 h] at hl;cases hl) (getD_in (by rw[inv.size];exact q1) hl) i hik)
   have hikD:i∉ks++D:=λh=>(List.mem_append.1 h).elim hik λh=>by
    have:=hD i h
    rw[getD_both hun] at this
    cases this
   have hown':=List.all_eq_true.1 hown i (List.mem_range.2 hilt)
   cases hd:D7 ops i with
   |none=>rw[hd] at hown';simp only[List.contains_iff_mem,hikD,Bool.or_eq_true,false_or] at hown';cases hown'
   |some d=>
   rw[hd] at hown'
   simp only[Bool.and_eq_true,Bool.not_eq_true',List.all_eq_true,List.mem_range,Bool.or_eq_true,List.contains_iff_mem,hikD,false_or] at hown'
   obtain⟨⟨hdn,hdm⟩,hdj⟩:=hown'
   have hdn1:d+1≤n.1:=by simpa [Nat.blt] using hdn
   have hdn':d<n.1:=hdn1
   have hod:o.dst=some d:=by unfold D7 at hd;rw[ho] at hd;exact hd
   obtain⟨ps,hps,hpD,hstep⟩:=step i o d hikD ho hod
   have hpreds2:=hpredsG i o hi ho ps hps hpD
   obtain⟨fr,hK,hfr⟩:=IN (a:=a) (n:=n) _ _ (hstep (FG a) h g2) hpreds2 ⟨g3.dfr,g3.siz,λi v hi=>by simp [lk] at hi⟩
   have hfull:Fr n a (fr++(m++FG a)):=hfr.append (g3.append g3.full)
   have hlk:∀i u,a.tmps[i]? =some u→lk (fr++(m++FG a)) i=some u:=by
    intro i u hu
    have hl:lk (FG a) i=some u:=by
     have:i<a.tmps.size:=(Array.getElem?_eq_some_iff.1 hu).1
     rw[L9 this]
     simp [Array.getD_eq_getD_getElem?,hu]
    have hex:∃u',lk (fr++(m++FG a)) i=some u':=by
     rw[Gq,Gq,hl]
     cases lk fr i with
     |some x=>exact⟨x,by simp⟩
     |none=>cases lk m i with
      |some x=>exact⟨x,by simp⟩
      |none=>exact⟨u,by simp⟩
    obtain⟨u',hu'⟩:=hex
    have:=hfull.at_ i u' hu'
    rw[hu] at this
    rw[hu',←Option.some.inj this]
   have next:=nextG i o d hik hikD hi ho hod
   have conv:∀a' w',KS B n d (RF R As Z i h fr) h (fr++(m++FG a)) a' w'→wpAny P .any ops Q fuel (listed.setIfInBounds i true) a' w':=by
    rintro a' w' ⟨v,h',f1,f2,f3,f4⟩
    have:=Fr.same hdn' hfull f1 λi u hi hu=>by
     have hne:Nat.beq d i=false:=by
      cases hb':Nat.beq d i with
      |false=>rfl
      |true=>exact absurd (Nat.eq_of_beq_eq_true hb').symm hi
     simp only[lk,hne,cond_false]
     exact hlk i u hu
    subst this
    refine next v w' h' f2 f3 f4.1 (λhA=>f4.2.1 (List.contains_iff_mem.2 hA)) λsl hsl=>?_
    obtain⟨r1,r2⟩:=f4.2.2 sl hsl
    rw[←r2]
    congr 1
    refine List.map_congr_left λs hs=>?_
    obtain⟨u,hu⟩:=Option.isSome_iff_exists.1 (r1 s hs)
    rw[hu,hfr.at_ s u hu]
   unfold wpOp
   simp only[ho]
   cases hg:o.guard with
   |none=>
    rw[hg] at hK
    rw[if_pos (by simp [Region.wanted,hg])]
    exact(HQ hg (hK a w hfull g1)).imp (Oper.wp_mono conv) id
   |some gb=>
    obtain⟨g,b⟩:=gb
    rw[hg] at hK
    obtain⟨dg,q1,hK⟩:=hK
    rcases hK with ⟨k1,k2⟩|⟨v,k1,k2,k3⟩
    ·have hy:yielded ops a.tmps g=some b:=JT hfr q1 k1
     rw[if_pos (by simp [Region.wanted,hg,hy])]
     exact(Lf (HQ rfl (k2 a w hfull g1))).imp (Oper.wp_mono conv) id
    ·have hy:yielded ops a.tmps g≠some b:=by rw[JT hfr q1 k1];exact k2
     rw[if_neg (by simp [Region.wanted,hg,hy]),hod]
     exact next undef w h g1 (Ap.refl h) k3 (λhA=>by obtain⟨b,e,_⟩:=hAF i hA _ _ k3;cases e) λsl hsl=>by
      have:=hZG _ hsl
      rw[ho] at this
      simp [hg] at this
end
def V7 (ops:Array Oper) (ks F:List Nat):Bool:=ks.all (λt=>Nat.blt t ops.size)&&decide ks.Nodup&&(ks.isEmpty||Pc ops ks F)&&MO ops ks&&NN ops ks&&KB ops&&Region.noSelect ops
def Jd (P:Program) (ops:Array Oper) (ks:List Nat) (n:FN) (m:SM) (h0:Ad) (R:AR):List Nat→Prop
 |[]=>True
 |f::F=>((f<ops.size∧f∉ks)∧M1 ops f=true∧∃o d ps,ops[f]? =some o∧o.dst=some d∧P8 ops o ps=true∧M5 P ops n m h0 R f o ps)∧Jd P ops ks n m h0 R F
theorem Jd.at_ {P:Program}{ops:Array Oper}{ks:List Nat}{n:FN}{m:SM}{h0:Ad}{R:AR}:∀{F:List Nat},Jd P ops ks n m h0 R F→∀f,f∈F→(f<ops.size∧f∉ks)∧M1 ops f=true∧∃o d ps,ops[f]? =some o∧o.dst=some d∧P8 ops o ps=true∧M5 P ops n m h0 R f o ps
 |[],_,f,hf=>by cases hf
 |g::F,⟨h1,h2⟩,f,hf=>by
  rcases List.mem_cons.1 hf with rfl|hf
  ·exact h1
  ·exact Jd.at_ h2 f hf
theorem Jd.cons {P:Program}{ops:Array Oper}{ks:List Nat}{n:FN}{m:SM}{h0:Ad}{R:AR}{f d:Nat}{o:Oper}{F:List Nat}(ps:List (Nat×Nat)) (h1:(Nat.blt f ops.size&& !ks.contains f&&M1 ops f)=true) (ho:ops[f]? =some o) (hd:o.dst=some d) (hps:P8 ops o ps=true) (hs:M5 P ops n m h0 R f o ps) (t:Jd P ops ks n m h0 R F):Jd P ops ks n m h0 R (f::F):=by
 simp only[Bool.and_eq_true,Bool.not_eq_true'] at h1
 exact⟨⟨⟨(by simpa [Nat.blt] using h1.1.1:f+1≤ops.size),λh=>by rw[List.contains_iff_mem.2 h] at h1;cases h1.1.2⟩,h1.2,o,d,ps,ho,hd,hps,hs⟩,t⟩
def Ae (P:Program) (ops:Array Oper) (Q:Exit→Act→World→Prop) (B:World) (n:FN) (m:SM) (h0:Ad) (R:AR) (ks As:List Nat) (Z:ZB):Nat→List Oper→List (List (Nat×Nat))→Prop
 |i,o::l,ps::pss=>(i∈ks∨match o.dst with|some d=>Qe P ops Q B n m h0 R As Z i o d ps|none=>False)∧Ae P ops Q B n m h0 R ks As Z (i+1) l pss
 |_,_,_=>True
def Pi (ops:Array Oper) (ks:List Nat) (l:List Oper) (pss:List (List (Nat×Nat))):Bool:=Nat.beq l.length pss.length&&(l.zip pss).zipIdx.all λp=>ks.contains p.2||P8 ops p.1.1 p.1.2
theorem Ae.at_ {P:Program}{ops:Array Oper}{Q:Exit→Act→World→Prop}{B:World}{n:FN}{m:SM}{h0:Ad}{R:AR}{ks As:List Nat}{Z:ZB}:∀{l:List Oper}{pss:List (List (Nat×Nat))}{k i:Nat}{o:Oper}{d:Nat},Ae P ops Q B n m h0 R ks As Z k l pss→l.length=pss.length→k+i∉ks→l[i]? =some o→o.dst=some d→∃ps,pss[i]? =some ps∧Qe P ops Q B n m h0 R As Z (k+i) o d ps
 |[],_,_,_,_,_,_,_,_,h,_=>by simp at h
 |_::_,[],_,_,_,_,_,hb,_,_,_=>by simp at hb
 |o'::l,ps::pss,k,0,o,d,hs,hb,hk,ho,hd=>by
  simp only[List.getElem?_cons_zero,Option.some.injEq] at ho
  subst ho
  simp only[Ae,hd] at hs
  exact⟨ps,rfl,hs.1.resolve_left hk⟩
 |o'::l,ps::pss,k,i+1,o,d,hs,hb,hk,ho,hd=>by
  simp only[List.getElem?_cons_succ] at ho
  obtain⟨q,q1,q2⟩:=Ae.at_ (l:=l) (pss:=pss) (k:=k+1) (i:=i) hs.2 (by simpa using hb) (by rw[show k+1+i=k+(i+1) by omega];exact hk) ho hd
  rw[show k+(i+1)=k+1+i by omega]
  exact⟨q,by simpa using q1,q2⟩
theorem Ae.cons {P:Program}{ops:Array Oper}{Q:Exit→Act→World→Prop}{B:World}{n:FN}{m:SM}{h0:Ad}{R:AR}{ks As:List Nat}{Z:ZB}{i:Nat}{o:Oper}{l:List Oper}{ps:List (Nat×Nat)}{pss:List (List (Nat×Nat))}{d:Nat}(hd:o.dst=some d) (hA:As.contains i=false) (hz:(Z.zs.map (·.1)).contains i=false) (h:OW P ops Q B n m h0 R i o d ps) (t:Ae P ops Q B n m h0 R ks As Z (i+1) l pss):Ae P ops Q B n m h0 R ks As Z i (o::l) (ps::pss):=by
 simp only[Ae,hd]
 refine⟨.inr λmt h1 o1=>PA.imp (λfr k=>?_) _ _ (h mt h1 o1),t⟩
 have rf:∀v h2,R i v h2→RF R As Z i h1 fr v h2:=λv h2 r=>⟨r,λh=>(by rw[hA] at h;cases h),λsl hsl=>by
  rw[List.contains_iff_mem.2 (List.mem_map.2 ⟨_,hsl,rfl⟩)] at hz;cases hz⟩
 have ks:∀a w,KS B n d (R i) h1 (fr++(m++mt)) a w→KS B n d (RF R As Z i h1 fr) h1 (fr++(m++mt)) a w:=λa w ⟨v,h2,q1,q2,q3,q4⟩=>⟨v,h2,q1,q2,q3,rf v h2 q4⟩
 have lf:∀o',LF P ops (Exit.then (KS B n d (R i) h1 (fr++(m++mt))) Q) [o'] B h1 n (fr++(m++mt))→LF P ops (Exit.then (KS B n d (RF R As Z i h1 fr) h1 (fr++(m++mt))) Q) [o'] B h1 n (fr++(m++mt)):=λo' k a w hf hw=>FR (λe a w q=>by cases e<;>first|exact ks a w q|exact q) _ a w (k a w hf hw)
 cases hg:o.guard with
 |none=>rw[hg] at k;exact lf _ k
 |some gb=>
  obtain⟨g,b⟩:=gb
  rw[hg] at k
  obtain⟨dg,q1,q2⟩:=k
  refine⟨dg,q1,q2.imp (λ⟨p1,p2⟩=>⟨p1,lf _ p2⟩) λx=>x⟩
theorem Ae.al {P:Program}{ops:Array Oper}{Q:Exit→Act→World→Prop}{B:World}{n:FN}{m:SM}{h0:Ad}{R:AR}{ks As:List Nat}{Z:ZB}{i:Nat}{l:List Oper}{pss:List (List (Nat×Nat))}{d T:Nat}{cs:List Value}{ty:TypeId}{pos:String}{af:Array Edge}(hR:R i=PM h0 T cs) (hz:CY P T=some cs) (hd:Nat.blt d n.1=true) (hzn:(Z.zs.map (·.1)).contains i=false) (t:Ae P ops Q B n m h0 R ks As Z (i+1) l pss):Ae P ops Q B n m h0 R ks As Z i (⟨some d,.alloc T,ty,pos,af,none⟩::l) ([]::pss):=by
 refine⟨.inr ?_,t⟩
 intro mt h ho
 show LF P ops (Exit.then (KS B n d (RF R As Z i h []) h _) Q) _ B h n _
 refine PH (Ap.refl h) hz hd λv h' o' r'=>AD o' ?_
 obtain⟨b,e,q1,q2,q3⟩:=r'
 have hr:R i v h':=by rw[hR];exact⟨b,e,Nat.le_trans ho.siz q1,q2,q3⟩
 exact⟨hr,λ_=>⟨b,by rw[e];rfl,q1⟩,λsl hsl=>by rw[List.contains_iff_mem.2 (List.mem_map.2 ⟨_,hsl,rfl⟩)] at hzn;cases hzn⟩
theorem Ae.z {P:Program}{ops:Array Oper}{Q:Exit→Act→World→Prop}{B:World}{n:FN}{m:SM}{h0:Ad}{R:AR}{ks As:List Nat}{Z:ZB}{i:Nat}{o:Oper}{l:List Oper}{ps:List (Nat×Nat)}{pss:List (List (Nat×Nat))}{d:Nat}(sl:List Nat) (hd:o.dst=some d) (hA:As.contains i=false) (hg:o.guard=none) (hzl:(Z.zs.all λz=> !(Nat.beq z.1 i)||decide (z.2=sl))=true)
  (h:∀mt h,Ap h0 h→PA R h (λfr=>LF P ops (Exit.then (KS B n d (λv h'=>R i v h'∧(sl.all λs=>(lk fr s).isSome)=true∧Z.f i (sl.map (lk fr))=some v) h (fr++(m++mt))) Q) [o] B h n (fr++(m++mt))) ps []) (t:Ae P ops Q B n m h0 R ks As Z (i+1) l pss):Ae P ops Q B n m h0 R ks As Z i (o::l) (ps::pss):=by
 simp only[Ae,hd]
 refine⟨.inr λmt h1 o1=>PA.imp (λfr k=>?_) _ _ (h mt h1 o1),t⟩
 rw[hg]
 refine λa w hf hw=>FR (λe a w q=>?_) _ a w (k a w hf hw)
 cases e<;>first|exact q|skip
 obtain⟨v,h2,q1,q2,q3,q4,q5,q6⟩:=q
 refine⟨v,h2,q1,q2,q3,q4,λh=>(by rw[hA] at h;cases h),λsl' hsl=>?_⟩
 have:=List.all_eq_true.1 hzl _ hsl
 simp only[Nat.beq_refl,Bool.not_true,Bool.false_or,decide_eq_true_eq] at this
 subst this
 exact⟨λs hs=>List.all_eq_true.1 q5 s hs,q6⟩
theorem Jb {P:Program}{ops:Array Oper}{Q:Exit→Act→World→Prop}{B:World}{n:FN}{m:SM}{h0:Ad}{R:AR}{ks As:List Nat}{Z:ZB}{i:Nat}{o:Oper}{l:List Oper}{ps:List (Nat×Nat)}{pss:List (List (Nat×Nat))}{d:Nat}(hd:o.dst=some d) (hg:o.guard=none) (hzn:(Z.zs.map (·.1)).contains i=false)
  (h:∀mt h,Ap h0 h→PA R h (λfr=>LF P ops (Exit.then (KS B n d (λv h'=>R i v h'∧RT h v) h (fr++(m++mt))) Q) [o] B h n (fr++(m++mt))) ps []) (t:Ae P ops Q B n m h0 R ks As Z (i+1) l pss):Ae P ops Q B n m h0 R ks As Z i (o::l) (ps::pss):=by
 simp only[Ae,hd]
 refine⟨.inr λmt h1 o1=>PA.imp (λfr k=>?_) _ _ (h mt h1 o1),t⟩
 rw[hg]
 refine λa w hf hw=>FR (λe a w q=>?_) _ a w (k a w hf hw)
 cases e<;>first|exact q|skip
 obtain⟨v,h2,q1,q2,q3,q4,q5⟩:=q
 exact⟨v,h2,q1,q2,q3,q4,λ_=>q5,λsl hsl=>by rw[List.contains_iff_mem.2 (List.mem_map.2 ⟨_,hsl,rfl⟩)] at hzn;cases hzn⟩
theorem Ae.skip {P:Program}{ops:Array Oper}{Q:Exit→Act→World→Prop}{B:World}{n:FN}{m:SM}{h0:Ad}{R:AR}{ks As:List Nat}{Z:ZB}{i:Nat}{o:Oper}{l:List Oper}{ps:List (Nat×Nat)}{pss:List (List (Nat×Nat))}(h:ks.contains i=true) (t:Ae P ops Q B n m h0 R ks As Z (i+1) l pss):Ae P ops Q B n m h0 R ks As Z i (o::l) (ps::pss):=
 ⟨.inl (List.contains_iff_mem.1 h),t⟩
def MY (S:Nat→Prop) (h h2:Ad) (bs:List Nat) (L:List HP):Prop:=(∀b,S b→b<h.size)∧Ap h h2∧(∀b,b∈bs→h.size≤b∧b<h2.size)∧Sp S L h2 (λb=>(b<h.size∧¬S b)∨b∈bs)
theorem MY.nil {S:Nat→Prop}{L:List HP}{h h2:Ad}(hs:St S L h) (o:Ap h h2):MY S h h2 [] L:=
 ⟨hs.1,o,λb hb=>(by cases hb),Sp.ext hs.2 (λ_ x=>x) (λc hc=>o.same c (hc.elim (hs.1 c) (·.1))) λc hc=> .inl hc⟩
theorem MY.cons {S:Nat→Prop}{L:List HP}{h h2:Ad}{bs:List Nat}{b T:Nat}{cs:List Value}(k:MY S h h2 bs L) (h1:h.size≤b) (h3:b<h2.size) (h4:h2[b]? =some (.cells cs.toArray T (0,0))) (hn:b∉bs):MY S h h2 (b::bs) (Bx b T cs::L):=by
 obtain⟨k1,k2,k3,k4⟩:=k
 refine⟨k1,k2,λc hc=>?_,λc=>c=b,⟨λ_=>Iff.rfl,h4⟩,λc hc=>by subst hc;exact .inr (List.mem_cons_self ..),k4.mono λc hc=>⟨hc.imp_right (List.mem_cons_of_mem _),λe=>?_⟩⟩
 ·rcases List.mem_cons.1 hc with rfl|hc
  ·exact⟨h1,h3⟩
  ·exact k3 c hc
 ·subst e
  rcases hc with hc|hc
  ·have:=hc.1;omega
  ·exact hn hc
theorem MY.st {S:Nat→Prop}{L:List HP}{h h2:Ad}{bs:List Nat}(k:MY S h h2 bs L):St S L h2:=by
 obtain⟨k1,k2,k3,k4⟩:=k
 refine⟨λb hb=>Nat.lt_of_lt_of_le (k1 b hb) k2.siz,k4.mono λc hc=>?_⟩
 rcases hc with hc|hc
 ·exact⟨Nat.lt_of_lt_of_le hc.1 k2.siz,hc.2⟩
 ·exact⟨(k3 c hc).2,λhS=>by have:=k1 c hS;have:=(k3 c hc).1;omega⟩
theorem OL {b c:Nat}{l:List Nat}(h:b≠c) (t:b∉l):b∉c::l:=λe=>(List.mem_cons.1 e).elim h t
theorem UK.at_ {DS:List Nat}{f:Nat→Option Value}{s s' b b':Nat}(k:UK DS f) (h:(DS.contains s&&DS.contains s'&& !(Nat.beq s s'))=true) (e:f s=some (.pointer (some ⟨b,0,none⟩))) (e':f s'=some (.pointer (some ⟨b',0,none⟩))):b≠b':=by
 simp only[Bool.and_eq_true,Bool.not_eq_true',List.contains_iff_mem] at h
 exact k s h.1.1 s' h.1.2 (λq=>by rw[q,Nat.beq_refl] at h;cases h.2) _ _ e e' _ _ rfl rfl
theorem UK.of_ {DS:List Nat}{f:Nat→Option Value}{s s' b b':Nat}{u u':Value}(k:UK DS f) (h:(DS.contains s&&DS.contains s'&& !(Nat.beq s s'))=true) (e:f s=some u) (e':f s'=some u') (z:Mo u=some b) (z':Mo u'=some b'):b≠b':=by
 simp only[Bool.and_eq_true,Bool.not_eq_true',List.contains_iff_mem] at h
 exact k s h.1.1 s' h.1.2 (λq=>by rw[q,Nat.beq_refl] at h;cases h.2) _ _ e e' _ _ z z'
def NC (r:Value→Ad→Prop):Prop:=∀v h,r v h→∃b,Mo v=some b∧b<h.size
theorem Nz {R:AR}:∀i,i∈([]:List Nat)→NC (R i):=λi hi=>by cases hi
theorem P6 {R:AR}{a:Nat}{l:List Nat}(e:NC (R a)) (t:∀i,i∈l→NC (R i)):∀i,i∈a::l→NC (R i):=λi hi=>by
 rcases List.mem_cons.1 hi with rfl|hi
 ·exact e
 ·exact t i hi
theorem Jv {R:AR}{h:Ad}{a T:Nat}{cs:List Value}{l:List Nat}(e:R a=PM h T cs) (t:∀i,i∈l→NC (R i)):∀i,i∈a::l→NC (R i):=
 P6 (λv h' hr=>by rw[e] at hr;obtain⟨b,e1,_,e2,_⟩:=hr;exact⟨b,by rw[e1];rfl,e2⟩) t
section
variable {P:Program}{ex:List (Nat×AP)}{RR N:AP}{cs:List Code}{B:World}{h:Ad}{n:FN}{m m0:SM}{S:Nat→Prop}{L:List HP}
theorem PB {l:List Oper}{id:Nat}(ks F As:List Nat) (Z:ZB) (hZ:UL l.toArray ks Z.zs=true) (hZG:(Z.zs.all λz=> !F.contains z.1&&((l.toArray[z.1]?).bind (·.guard)).isNone)=true) (R:AR) (pss:List (List (Nat×Nat))) (fs:List (Nat×Nat)) {ls:List Oper}(hm:P.follows .mixedOrders=true) (hc:V7 l.toArray ks F=true) (ms:List Nat) (hms:m.map (·.1)=ms) (hown:Sj l.toArray ks n ms=true)
  (hps:Pi l.toArray ks l pss=true) (hfs:(fs.all λp=>Nat.blt p.1 l.length&& !ks.contains p.1&&(D7 l.toArray p.1).any (Nat.beq p.2 ·))=true) (hls:(ks.filterMap λt=>l[t]?)=ls) (hsub:PL m0 m)
  (hmono:∀i v h1 h2,Ap h h1→Ap h1 h2→R i v h1→R i v h2)
  (hAs:(As.all λi=> !ks.contains i&& !F.contains i)=true) (hAl:∀i,i∈As→NC (R i))
  (hF:Jd P l.toArray ks n m h R F)
  (step:Ae P l.toArray (Qx ex RR (W P ex RR cs N)) B n m h R ks As Z 0 l pss)
  (fin:∀h',Ap h h'→PA R h' (λfr=>UK (Rs l.toArray As) (lk fr)→(∀z,z∈Z.zs→∀d v,D7 l.toArray z.1=some d→lk fr d=some v→(z.2.all λs=>(lk fr s).isSome)=true→Z.f z.1 (z.2.map (lk fr))=some v)→LF P l.toArray (Qx ex RR (W P ex RR cs N)) ls B h' n (fr++m)) fs []):WF P ex RR (.region id l.toArray true::cs) N B h n m0:=by
 intro a w hf hw
 subst hms
 simp only[V7,Bool.and_eq_true,Bool.or_eq_true,decide_eq_true_eq] at hc
 obtain⟨⟨⟨⟨⟨⟨h1,h2⟩,h3⟩,h4⟩,h5⟩,h6⟩,h7⟩:=hc
 simp only[Pi,Bool.and_eq_true] at hps
 have hlen:l.length=pss.length:=Nat.eq_of_beq_eq_true hps.1
 have hAs':∀i,i∈As→i∉ks∧i∉F:=λi hi=>by
  have:=List.all_eq_true.1 hAs i hi
  simp only[Bool.and_eq_true,Bool.not_eq_true'] at this
  exact⟨λh=>(by rw[List.contains_iff_mem.2 h] at this;cases this.1),λh=>(by rw[List.contains_iff_mem.2 h] at this;cases this.2)⟩
 have hZG':∀z,z∈Z.zs→z.1∉F∧((l.toArray[z.1]?).bind (·.guard))=none:=λz hz=>by
  have:=List.all_eq_true.1 hZG z hz
  simp only[Bool.and_eq_true,Bool.not_eq_true',Option.isNone_iff_eq_none] at this
  exact⟨λh=>(by rw[List.contains_iff_mem.2 h] at this;cases this.1),this.2⟩
 refine λrd hrd=>Mg hrd Jh hm (Nx (R:=R) (B:=B) (h0:=h) (n:=n) (m:=m) ks [] As Z (by rw[List.append_nil];exact RU hZ) (λz hz=>hZG' z hz |>.2) hAl (λt ht=>by have:=List.all_eq_true.1 h1 t ht;simp [Nat.blt] at this ⊢;omega) h2 h6 F [] (.inr rfl) (by rw[List.append_nil,List.append_nil];exact h3.imp (λe=>by cases ks with|nil=>rfl|cons _ _=>simp at e) λx=>x) (LK h4) h5 h7 (λc a w hq=>hq) (λf hf=>⟨λhA=>(hAs' f hA).2 hf,λsl hsl=>(hZG' _ hsl).1 hf⟩) (λf hf=>hF.at_ f hf) (by rw[List.append_nil];exact hown) hmono (λi hi=>by rw[List.append_nil];exact(hAs' i hi).1) (λi o d hi ho hd=>?_) (λa w h' g1 g2 g3 g4 g5 g6=>?_) (.inl rfl) _ _ _ _ ?_ ⟨by simp,λj oj _ hl=>(by rw[getD_replicate_false] at hl;cases hl),λt ht=>getD_in (by have:=List.all_eq_true.1 h1 t ht;simp [Nat.blt] at this ⊢;omega) (getD_replicate_false _ _)⟩ (λi hi=>by cases hi) ⟨⟨h,hw.drew,Ap.refl h,hf.sub hsub,λi _ hl=>(by rw[getD_replicate_false] at hl;cases hl)⟩,λi _ j _ _ hl=>(by rw[getD_replicate_false] at hl;cases hl),λz _ hl=>(by rw[getD_replicate_false] at hl;cases hl)⟩)
 ·rw[List.append_nil] at hi
  have ho':l[i]? =some o:=by simpa using ho
  obtain⟨ps,q1,q2⟩:=Ae.at_ (k:=0) step hlen (by rw[Nat.zero_add];exact hi) ho' hd
  rw[Nat.zero_add] at q2
  refine⟨ps,?_,λ_ _=>List.not_mem_nil,q2⟩
  have hil:i<l.length:=(List.getElem?_eq_some_iff.1 ho').1
  have hz:((o,ps),i)∈(l.zip pss).zipIdx:=by
   rw[List.mem_iff_getElem?]
   exact⟨i,by rw[List.getElem?_zipIdx,(List.getElem?_zip_eq_some (z:=(o,ps))).2 ⟨ho',q1⟩];simp⟩
  have:=List.all_eq_true.1 hps.2 _ hz
  simp only[Bool.or_eq_true,List.contains_iff_mem,hi,false_or] at this
  exact this
 ·obtain⟨fr,k1,k2⟩:=IN (a:=a) (n:=n) _ _ (fin h' g2) (λp hp=>by
   have e:=List.all_eq_true.1 hfs p hp
   simp only[Bool.and_eq_true,Bool.not_eq_true'] at e
   have e1:p.1<l.toArray.size:=by have:=e.1.1;simp [Nat.blt] at this ⊢;omega
   obtain⟨d,v,q1,q2,q3⟩:=g4 p.1 e1 (λh=>by rw[List.append_nil] at h;rw[List.contains_iff_mem.2 h] at e;cases e.1.2)
   have e2:=e.2
   rw[q1] at e2
   have:p.2=d:=Nat.eq_of_beq_eq_true (by simpa using e2)
   exact⟨v,by rw[this];exact q2,q3⟩) ⟨g3.dfr,g3.siz,λi v hi=>by simp [lk] at hi⟩
  have hls':(ks.filterMap λt=>l.toArray[t]?)=ls:=by rw[←hls];congr 1;funext t;simp
  rw[hls']
  exact k1 (λs hs s' hs' hne u u' e e'=>g5 s hs s' hs' hne u u' (k2.at_ _ _ e) (k2.at_ _ _ e')) (λz hz d v q1 q2 q3=>by
   obtain⟨d',v',p1,p2,p3⟩:=g6 z hz
   rw[q1] at p1
   cases p1
   rw[k2.at_ d v q2] at p2
   cases p2
   rw[←p3]
   congr 1
   refine List.map_congr_left λs hs=>?_
   obtain⟨u,hu⟩:=Option.isSome_iff_exists.1 (List.all_eq_true.1 q3 s hs)
   rw[hu,k2.at_ s u hu]) a w (k2.append g3) g1
 ·unfold N4
  rw[Array.toList_replicate]
  simp
theorem Wg {l:List Oper}{id:Nat}(ks F As:List Nat) (R:AR) (pss:List (List (Nat×Nat))) (fs:List (Nat×Nat)) {ls:List Oper}(hm:P.follows .mixedOrders=true) (hc:V7 l.toArray ks F=true) (ms:List Nat) (hms:m.map (·.1)=ms) (hown:Sj l.toArray ks n ms=true)
  (hps:Pi l.toArray ks l pss=true) (hfs:(fs.all λp=>Nat.blt p.1 l.length&& !ks.contains p.1&&(D7 l.toArray p.1).any (Nat.beq p.2 ·))=true) (hls:(ks.filterMap λt=>l[t]?)=ls) (hsub:PL m0 m)
  (hmono:∀i v h1 h2,Ap h h1→Ap h1 h2→R i v h1→R i v h2)
  (hAs:(As.all λi=> !ks.contains i&& !F.contains i)=true) (hAl:∀i,i∈As→NC (R i))
  (hF:Jd P l.toArray ks n m h R F)
  (step:Ae P l.toArray (Qx ex RR (W P ex RR cs N)) B n m h R ks As ZB.none 0 l pss)
  (fin:∀h',Ap h h'→PA R h' (λfr=>UK (Rs l.toArray As) (lk fr)→LF P l.toArray (Qx ex RR (W P ex RR cs N)) ls B h' n (fr++m)) fs []):WF P ex RR (.region id l.toArray true::cs) N B h n m0:=
 PB ks F As ZB.none rfl rfl R pss fs hm hc ms hms hown hps hfs hls hsub hmono hAs hAl hF step λh' o=>PA.imp (λfr k d _=>k d) _ _ (fin h' o)
end
end Go.Proofs.YtibidnaedddfdaaGreat
