import Derived.Test.YtibidnaedddfdaaGreatBCore17
namespace Go.Proofs.YtibidnaedddfdaaGreat
open Go.RowKit
set_option linter.unusedVariables false
set_option linter.unusedSimpArgs false
def Xf (L:List HP):HP where
 holds:=λS F h=>Sp S L h F
 loc:=λk s e=>Sp.ext k s e λ_ x=>x
def PB (l:Nat) (r:Loop):HP where
 holds:=λ_ F h=>(∀b,F b↔b=l)∧h[l]? =some (.loop r)
 loc:=λ⟨k1,k2⟩ _ e=>⟨k1,(e l (.inr ((k1 l).2 rfl))).trans k2⟩
theorem Us {S:Nat→Prop}{h:Ac}:∀{L1 L:List HP}{A:Nat→Prop},Sp S (L1++L) h A→∃F,Sp S L1 h F∧(∀b,F b→A b)∧Sp S L h (λb=>A b∧¬F b)
 |[],L,A,k=>⟨λ_=>False,trivial,λ_ x=>x.elim,k.mono λb hb=>⟨hb,λx=>x⟩⟩
 |H::L1,L,A,⟨F,k1,k2,k3⟩=>by
  obtain⟨G,g1,g2,g3⟩:=Us k3
  refine⟨λb=>F b∨G b,⟨F,k1,λb hb=> .inl hb,g1.mono λb hb=>⟨.inr hb,(g2 b hb).2⟩⟩,λb hb=>hb.elim (k2 b) λx=>(g2 b x).1,g3.mono λb hb=>⟨hb.1.1,λx=>x.elim hb.1.2 hb.2⟩⟩
theorem Sp.app2 {S:Nat→Prop}{h:Ac}:∀{L1 L:List HP}{A F:Nat→Prop},Sp S L1 h F→(∀b,F b→A b)→Sp S L h (λb=>A b∧¬F b)→Sp S (L1++L) h A
 |[],L,A,F,_,_,k=>k.mono λb hb=>hb.1
 |H::L1,L,A,F,⟨G,k1,k2,k3⟩,i,k=>⟨G,k1,λb hb=>i b (k2 b hb),Sp.app2 k3 (λb hb=>⟨i b hb.1,hb.2⟩) (k.mono λb hb=>⟨⟨hb.1,λx=>hb.2 (k2 b x)⟩,λx=>hb.2 x.1⟩)⟩
section
variable {S:Nat→Prop}{L L1 M:List HP}{h:Ac}{H:HP}
theorem Rx (hs:St S (L1++L) h):St S (Xf L1::L) h:=by
 obtain⟨F,k1,k2,k3⟩:=Us hs.2
 exact⟨hs.1,F,k1,k2,k3⟩
theorem ON (hs:St S (Xf L1::L) h):St S (L1++L) h:=by
 obtain⟨F,k1,k2,k3⟩:=hs.2
 exact⟨hs.1,Sp.app2 k1 k2 k3⟩
theorem NL:∀{M:List HP},L4 (M++H::L) H (M++L)
 |[]=> .head
 |K::M=> .tail NL
theorem Ph {H':HP}:∀{M:List HP},Ik (M++H::L) H H' (M++H'::L)
 |[]=> .head
 |K::M=> .tail Ph
theorem St.mid (hs:St S (H::(M++L)) h):St S (M++H::L) h:=⟨hs.1,Kw NL hs.2⟩
theorem Ur (hs:St S (M++H::L) h):St S (H::(M++L)) h:=⟨hs.1,Sp.pick NL hs.2⟩
theorem St.rec {l:Nat}{r r':Loop}(hs:St S (PB l r::L) h):h[l]? =some (.loop r)∧St S (PB l r'::L) (h.setIfInBounds l (.loop r'))∧Bg S h S (h.setIfInBounds l (.loop r')):=by
 obtain⟨F,k,_⟩:=hs.get (List.mem_cons_self ..)
 have hlt:l<h.size:=(Array.getElem?_eq_some_iff.1 k.2).1
 refine⟨k.2,hs.upd (H':=PB l r') .head (by simp) λF k1 _=>⟨F,⟨k1.1,by simp [hlt]⟩,λ_ hb=> .inl hb,λb _ hb=>?_⟩⟩
 have:b≠l:=λe=>hb ((k1.1 b).2 e)
 simp [Array.getElem?_setIfInBounds_ne (Ne.symm this)]
end
theorem Wd.putObj {B w:World}{h:Ac}(k:Wd B h w) (l:Nat) (o:Obj):Wd B (h.setIfInBounds l o) (w.putObj l o):=⟨by show w.heap.setIfInBounds l o=_;rw[k.heap],k.os,k.tape,k.out⟩
abbrev Qv (α:Type):=(Nat→Prop)→Ac→List Value→α→Prop
def YC {α σ:Type}(P:Program) (yv:Value) (Y:Bool→σ→HP) (AR:Qv α) (yld:α→σ→Option (Bool×σ)) (S0:Nat→Prop) (h0:Ac):Prop:=
 ∃l,yv= .func (.yield l) #[] #[]∧∀(x:α) (s:σ) (out:Bool×σ),yld x s=some out→∀(S:Nat→Prop) (L:List HP) (h:Ac) (vs:List Value) (B w:World),Bg S0 h0 S h→St S (Y true s::L) h→AR S h vs x→Wd B h w→
  ∃fn tmps assign body,(Instr.yield l vs.toArray).run P w= .ok (.round l fn tmps assign body) w∧
   RoundIn Fence.wide 0 P l fn tmps assign body w (λe w'=>∃S' h',e= .returned (.bool out.1)∧Wd B h' w'∧Bg S h S' h'∧St S' (Y out.1 out.2::L) h')
theorem YC.mono {α σ:Type}{P:Program}{yv:Value}{Y:Bool→σ→HP}{AR:Qv α}{yld:α→σ→Option (Bool×σ)}{S0 S1:Nat→Prop}{h0 h1:Ac}(k:YC P yv Y AR yld S0 h0) (e:Bg S0 h0 S1 h1):YC P yv Y AR yld S1 h1:=by
 obtain⟨l,e1,k⟩:=k
 exact⟨l,e1,λx s out ho S L h vs B w e2=>k x s out ho S L h vs B w (e.trans e2)⟩
def YL (P:Program) (ops:Array Oper) (Q:Exit→Act→World→Prop) (l:List Oper) (B:World) (h:Ac) (n:FN) (m:SM):Prop:=∀a w,Fr n a m→Wd B h w→wpListIn (FF none) 0 P ops Q l a w
theorem RE {P:Program}{l:Nat}{f:FuncId}{tmps:Array Value}{assign body:Code}{w:World}{R:Ending→World→Prop}{rd:Option Nat}{n n':Nat}(h:RoundIn Fence.wide n P l f tmps assign body w R):RoundIn (FF rd) n' P l f tmps assign body w R:=
 ⟨Jr rd f,λc cs _=>by rw[Ky];exact h.2 c cs (room_wide _)⟩
theorem KM {P:Program}{ops:Array Oper}{Q:Exit→Act→World→Prop}{rd:Option Nat}:∀(l:List Oper) (a:Act) (w:World),(rd=none∨l.all SZ=true)→wpListIn (FF none) 0 P ops Q l a w→wpListIn (FF rd) 0 P ops Q l a w
 |[],_,_,_,h=>h
 |o::rest,a,w,hn,h=>by
  have h1:rd=none∨SZ o=true:=hn.imp (λx=>x) λh=>by simp only[List.all_cons,Bool.and_eq_true] at h;exact h.1
  have h2:rd=none∨rest.all SZ=true:=hn.imp (λx=>x) λh=>by simp only[List.all_cons,Bool.and_eq_true] at h;exact h.2
  unfold wpListIn at h ⊢
  split
  ·rename_i hw
   rw[if_pos hw] at h
   refine⟨λf _=>Jr rd f,?_⟩
   have h3:=h.2
   have hs:o.semAt (FF rd).round a.eval=o.semAt (FF none).round a.eval:=by
    rw[Nt,Nt]
    cases rd with
    |none=>rfl
    |some l=>exact Oper.semAt_some l _ _ λc hc=>h1.elim (λhn=>by cases hn) λhn=>by unfold SZ at hn;rw[hc] at hn;cases hn
   rw[hs]
   generalize (o.semAt (FF none).round a.eval).run P w=r at h3
   cases r with
   |ok nx w'=>
    cases nx<;>simp only[Oper.uponIn] at h3 ⊢
    case value v=>exact KM rest _ _ h2 h3
    case skip=>exact KM rest _ _ h2 h3
    case defer d=>exact KM rest _ _ h2 h3
    case enter f args=>exact⟨λhd=>(by rw[Hw] at hd;cases hd),O2 ((callsIn_wide.1 h3.2).mono λe w'' he=>by cases e<;>first|exact KM rest _ _ h2 he|exact he)⟩
    case row r args=>exact⟨λhd=>(by rw[Hw] at hd;cases hd),λc cs _=>by
     obtain⟨v,w'',q1,q2⟩:=h3.2 c cs (Vs none _)
     exact⟨v,w'',KM rest _ _ h2 q1,by rw[Ky] at q2 ⊢;exact q2⟩⟩
    case round l f tmps assign body=>exact⟨λhd=>(by rw[Hw] at hd;cases hd),RE (RoundIn.mono h3.2 λe w'' he=>by cases e<;>first|exact KM rest _ _ h2 he|exact he)⟩
   |halt x w'=>cases x<;>simp only[Oper.uponIn] at h3 ⊢;exact h3
  ·rename_i hw
   rw[if_neg hw] at h
   exact⟨λf _=>Jr rd f,KM rest _ w h2 h.2⟩
section
variable {P:Program}{ex:List (Nat×AP)}{R N:AP}{cs:List Code}{B:World}{h:Ac}{n:FN}{m m':SM}{S:Nat→Prop}{L:List HP}
theorem WI {l:List Oper}{id:Nat}(k:YL P l.toArray (Qx ex R (W P ex R cs N)) l B h n m):WF P ex R (.region id l.toArray false::cs) N B h n m:=λa w hf hw rd hd=>
 wpIn_region_lit (KM l a w (hd.imp (λx=>x) λh=>by simpa [QO] using h) (k a w hf hw))
end
section
variable {P:Program}{ops:Array Oper}{Q:Exit→Act→World→Prop}{n:FN}{m m':SM}{rest l:List Oper}{B:World}{h:Ac}{S:Nat→Prop}{L:List HP}
theorem JY (hQ:∀a w,¬Q .outgrown a w):∀(k:Nat) (l:List Oper) (a:Act) (w:World),wpList P ops (Exit.then (wpListIn (FF none) 0 P ops Q (l.drop k)) Q) (l.take k) a w→wpListIn (FF none) 0 P ops Q l a w
 |0,l,a,w,h=>by simpa [wpList,Exit.then] using h
 |k+1,[],a,w,h=>by simpa [wpList,Exit.then] using h
 |k+1,o::l,a,w,h=>by
  simp only[List.take_succ_cons,List.drop_succ_cons] at h
  unfold wpList at h
  unfold wpListIn
  split
  ·rename_i hw
   rw[if_pos hw] at h
   have h1:=h.imp (Oper.wp_mono λa w k'=>JY hQ k l a w k') id
   refine Wt (.inl rfl) hQ ?_
   rcases h1 with h1|⟨_,a0,w0,h2⟩
   ·refine .inl ?_
    unfold Oper.wp at h1 ⊢
    generalize (execOp a.eval o).run P w=r at h1
    cases r with
    |ok nx w'=>
     cases nx<;>simp only[Oper.upon] at h1 ⊢
     case value v=>exact h1
     case skip=>exact h1
     case defer d=>exact h1
     case enter f args=>
      refine h1.mono λe w'' he=>?_
      cases e with
      |returned v=>exact he
      |panicked c=>exact he
      |outgrown=>obtain⟨a0,w0,h0⟩:=he;exact⟨a0,w0,h0⟩
     case row r args=>exact h1
    |halt x w'=>cases x<;>simp only[Oper.upon] at h1 ⊢;exact h1
   ·exact absurd h2 (hQ a0 w0)
  ·rename_i hw
   rw[if_neg hw] at h
   exact⟨λf _=>Jr none f,JY hQ k l _ w h⟩
theorem Jm (j:Nat) (hQ:∀a w,¬Q .outgrown a w) (k:QF P ops (Wd B h) (λa=>∀w,Wd B h w→wpListIn (FF none) 0 P ops Q (l.drop j) a w) (l.take j) n m):YL P ops Q l B h n m:=λa w hf hw=>
 JY hQ j l a w (HZ (Q:=Exit.then (wpListIn (FF none) 0 P ops Q (l.drop j)) Q) (λ_ w hw hK=>hK w hw) (l.take j) a w hw (k a hf))
theorem QF.yn {C:World→Prop}(k:YL P ops Q l B h n m):QF P ops C (λa=>∀w,Wd B h w→wpListIn (FF none) 0 P ops Q l a w) [] n m:=λa hf w hw=>k a w hf hw
theorem ZF (j:Nat) (hQ:∀a w,¬Q .outgrown a w) (k:LF P ops (Exit.then (wpListIn (FF none) 0 P ops Q (l.drop j)) Q) (l.take j) B h n m):YL P ops Q l B h n m:=λa w hf hw=>JY hQ j l a w (k a w hf hw)
theorem LF.yn (k:YL P ops Q l B h n m):LF P ops (Exit.then (wpListIn (FF none) 0 P ops Q l) Q) [] B h n m:=λa w hf hw=>k a w hf hw
theorem YL.nil {ex:List (Nat×AP)}{R N:AP}{cs:List Code}(hs:PI m m') (k:WF P ex R cs N B h n m'):YL P ops (Qx ex R (W P ex R cs N)) [] B h n m:=λa w hf hw=>k a w (hf.sub hs) hw
theorem YL.gy {o:Oper}{j e:Nat}{b:Bool}(hg:o.guard=some (j,b)) (hj:(ops[j]?).bind (·.dst)=some e) (hb:lk m e=some (.bool b)) (k:YL P ops Q ({ o with guard:=none}::rest) B h n m):YL P ops Q (o::rest) B h n m:=by
 intro a w hf hw
 have h1:Region.wanted o (yielded ops a.tmps)=true:=by
  have:=hf.at_ e _ hb
  simp [Region.wanted,hg,yielded,hj,this]
 have h2:=k a w hf hw
 unfold wpListIn at h2 ⊢
 rw[if_pos (by simp [Region.wanted])] at h2
 rw[if_pos h1]
 exact h2
theorem Zl {o:Oper}{j e d:Nat}{b:Bool}(hg:o.guard=some (j,!b)) (hj:(ops[j]?).bind (·.dst)=some e) (hb:lk m e=some (.bool b)) (ho:o.dst=some d) (hd:Nat.blt d n.1=true) (k:YL P ops Q rest B h n ((d,undef)::m)):YL P ops Q (o::rest) B h n m:=by
 intro a w hf hw
 have h1:Region.wanted o (yielded ops a.tmps)=false:=by
  have:=hf.at_ e _ hb
  cases b<;>simp [Region.wanted,hg,yielded,hj,this]
 unfold wpListIn
 rw[if_neg (by rw[h1];exact Bool.false_ne_true),ho]
 exact⟨λf _=>Jr none f,k _ w (hf.put hd _) hw⟩
theorem Zj {α σ:Type}{yv:Value}{Y:Bool→σ→HP}{AR:Qv α}{yld:α→σ→Option (Bool×σ)}{S0:Nat→Prop}{h0:Ac}{X:Operand}{xs:Array Operand}{tys:Array TypeId}{vs:List Value}{d:Nat}{ty:TypeId}{pos:String}{af:Array Edge}{x:α}{s:σ}{out:Bool×σ}
  (yc:YC P yv Y AR yld S0 h0) (hX:BW m X=some yv) (hxs:xs.toList.mapM (BW m)=some vs) (hy:yld x s=some out) (e0:Bg S0 h0 S h) (hs:St S (Y true s::L) h) (ha:AR S h vs x) (hd:Nat.blt d n.1=true)
  (k:∀S' h',Bg S h S' h'→St S' (Y out.1 out.2::L) h'→YL P ops Q rest B h' n ((d,.bool out.1)::m)):YL P ops Q (⟨some d,.call ⟨.value X,xs,tys⟩,ty,pos,af,none⟩::rest) B h n m:=by
 intro a w hf hw
 obtain⟨l,rfl,yc⟩:=yc
 obtain⟨fn,tmps,assign,body,q1,q2⟩:=yc x s out hy S L h vs B w e0 hs ha hw
 unfold wpListIn
 rw[if_pos (by simp [Region.wanted])]
 refine⟨λf _=>Jr none f,?_⟩
 have hrun:(execOp a.eval ⟨some d,.call ⟨.value X,xs,tys⟩,ty,pos,af,none⟩).run P w= .ok (.round l fn tmps assign body) w:=by
  have e1:=hf.eval hX
  have e2:=Rj hf hxs
  simp [execOp,resolve,Deferred.ofValue,invoke,e1,e2,q1]
 have hs':(⟨some d,.call ⟨.value X,xs,tys⟩,ty,pos,af,none⟩:Oper).semAt (FF none).round a.eval=execOp a.eval ⟨some d,.call ⟨.value X,xs,tys⟩,ty,pos,af,none⟩:=rfl
 rw[hs',hrun]
 refine⟨λhd=>(by rw[Hw] at hd;cases hd),RE (RoundIn.mono q2 λe w' he=>?_)⟩
 obtain⟨S',h',rfl,r1,r2,r3⟩:=he
 exact k S' h' r2 r3 _ w' (hf.put hd _) r1
end
theorem SB {P:Program}{f:Nat}(hcb:Ar P f=true) (args:Array Value) (w:World):(callFunc f args).run P w= .ok (.enter f args) w:=by
 unfold Ar at hcb
 split at hcb
 ·rename_i fn hfn
  simp only[Bool.and_eq_true,Bool.not_eq_true'] at hcb
  have hn:¬fn.name= "runtime.NumGoroutine" :=by simpa using hcb.1
  have hb:¬fn.body=none:=by intro h0;rw[h0] at hcb;simp at hcb
  simp [callFunc,hfn,hn,hb]
 ·cases hcb
def parm (m:SM):List (Nat×Value)→SM
 |[]=>m
 |p::r=>parm (p::m) r
theorem Fr.parm {n:FN}:∀(l:List (Nat×Value)) {t:Array Value}{m:SM},(∀p,p∈l→Nat.blt p.1 n.1=true)→Fr (n.1,[]) { tmps:=t,defers:=[]} m→Fr (n.1,[]) { tmps:=l.foldl (λt p=>t.setIfInBounds p.1 p.2) t,defers:=[]} (parm m l)
 |[],t,m,_,k=>k
 |p::l,t,m,hp,k=>Fr.parm l (λq hq=>hp q (List.mem_cons_of_mem _ hq)) (k.put (hp p (List.mem_cons_self ..)) p.2)
def MF (r:Loop) (c0:Code) (b:Bool):Loop:={ r with state:=if b then .ready else .done,pending:=if b then none else some c0}
def YR {σ:Type}(l:Nat) (r:Loop) (c0:Code) (J:σ→List HP):Bool→σ→HP:=λb s=>Xf (PB l (MF r c0 b)::J s)
section
variable {P:Program}{ex:List (Nat×AP)}{R N:AP}{cs:List Code}{B:World}{h:Ac}{k:Nat}{Ds:List Nat}{m:SM}{S:Nat→Prop}{L:List HP}
def RN {σ:Type}(B:World) (S1:Nat→Prop) (h1:Ac) (J:σ→List HP) (L1:List HP) (out:Bool×σ) (b:Bool):AP:=λa w=>out.1=b∧∃S2 h2,Wd B h2 w∧Bg S1 h1 S2 h2∧St S2 (J out.2++L1) h2
set_option maxHeartbeats 1000000 in
theorem XY {α σ:Type}{g:Operand}{ps:Array Tmp}{assign body:Code}(i0:Nat) {f:Nat}{caps:Array Value}(J:σ→List HP) (s0:σ) (AR:Qv α) (yld:α→σ→Option (Bool×σ)) (r:Bool×σ) (m2:List Value→SM)
  (hg:BW m g=some (.func (.func f) #[] caps)) (hcb:Ar P f=true) (hnd:(QO assign&&QO body&&ps.toList.all λp=>Nat.blt p k)=true) (hs:St S (J s0++Uz Ds::L) h)
  (hal:∀{S h vs x},AR S h vs x→vs.length=ps.size) (ham:∀{S h S' h' vs x},AR S h vs x→Bg S h S' h'→AR S' h' vs x)
  (hiter:∀yv (Y:Bool→σ→HP) S1 h1 L1,Bg S h S1 h1→YC P yv Y AR yld S1 h1→St S1 (Y true s0::L1) h1→Bh P f (#[yv]++caps) S1 h1 (λv S' h'=>St S' (Y r.1 r.2::L1) h'))
  (hasg:∀vs B h1,vs.length=ps.size→WF P [] (λ_ _=>False) [assign] (λa w=>Fr (k,[]) a (m2 vs)∧Wd B h1 w) B h1 (k,[]) (parm m (ps.toList.zip vs)))
  (hbody:∀x s out vs S1 h1 L1 B,yld x s=some out→Bg S h S1 h1→AR S1 h1 vs x→St S1 (J s++L1) h1→WF P [(i0,RN B S1 h1 J L1 out false)] (λ_ _=>False) [body] (RN B S1 h1 J L1 out true) B h1 (k,[]) (m2 vs))
  (hgo:r.1=true→∀S' h' D,Bg S h S' h'→St S' (J r.2++Uz (D::Ds)::L) h'→WF P ex R cs N B h' (k,Me (D::Ds)) m)
  (hout:r.1=false→∀S' h' D,Bg S h S' h'→St S' (J r.2++Uz (D::Ds)::L) h'→WF P ex R (.exit i0::cs) N B h' (k,Me (D::Ds)) m):
  WF P ex R (.rangeFunc g ps assign body::cs) N B h (k,Me Ds) m:=by
 intro a w hf hw rd hd
 simp only[Bool.and_eq_true] at hnd
 obtain⟨⟨hnd1,hnd2⟩,hnd3⟩:=hnd
 have hrd:rd=none:=hd.elim (λx=>x) λh=>by cases h
 subst hrd
 clear hd
 refine wpIn_rangeFunc λfn hfn=>?_
 obtain⟨rc,hrc⟩:∃rc:Loop,rc={ state:= .ready,pending:=none,fn,tmps:=a.tmps,params:=ps,assign,body,defers:=w.heap.size}:=⟨_,rfl⟩
 have hz:w.heap.size=h.size:=by rw[hw.heap]
 have hrt:MF rc (.exit i0) true=rc:=by rw[hrc];rfl
 have s1:=hs.upd (H':=Uz (h.size::Ds)) (h':=h.push (.deferred (some []))) Ph (by simp) λF q1 q2=>⟨λb=>F b∨b=h.size,⟨List.nodup_cons.2 ⟨λhm=>by have:=(q2 _ ((q1.2.1 _).2 hm)).1;omega,q1.1⟩,λb=>by rw[List.mem_cons,←q1.2.1 b];exact Or.comm,λD hD=>by
   rcases List.mem_cons.1 hD with rfl|hD
   ·exact Gi _ _
   ·rw[Dl _ _ _ (q2 D ((q1.2.1 D).2 hD)).1];exact q1.2.2 D hD⟩,λb hb=>hb.imp (λx=>x) λe=>by subst e;simp,λb hb _=>Dl _ _ _ hb⟩
 have s2:=s1.1.add (H':=PB (h.size+1) rc) (h':=(h.push (.deferred (some []))).push (.loop rc)) (by simp) (λb hb=>Dl _ _ _ hb) ⟨λb=>b=h.size+1,⟨λ_=>Iff.rfl,by have:=Gi (h.push (.deferred (some []))) (.loop rc);simpa using this⟩,λb hb=>by subst hb;simp⟩
 have hw1:Wd B ((h.push (.deferred (some []))).push (.loop rc)) ((w.alloc (.deferred (some []))).alloc (.loop rc)):=(hw.alloc _).alloc _
 have e1:Bg S h S ((h.push (.deferred (some []))).push (.loop rc)):=s1.2.trans s2.2
 have sY:St S (YR (h.size+1) rc (.exit i0) J true s0::Uz (h.size::Ds)::L) ((h.push (.deferred (some []))).push (.loop rc)):=by
  refine Rx (L1:=PB (h.size+1) (MF rc (.exit i0) true)::J s0) ?_
  rw[hrt]
  exact s2.1
 have yc:YC P (.func (.yield (h.size+1)) #[] #[]) (YR (h.size+1) rc (.exit i0) J) AR yld S ((h.push (.deferred (some []))).push (.loop rc)):=by
  refine⟨h.size+1,rfl,λx s out hy S2 L2 h2 vs B2 w2 e2 st2 ar wd2=>?_⟩
  have u:=ON st2
  rw[hrt] at u
  obtain⟨g1,g2,g3⟩:=St.rec (r':={ rc with state:= .busy}) u
  have hl2:w2.heap[h.size+1]? =some (.loop rc):=by rw[wd2.heap];exact g1
  have hvl:=hal ar
  have hy2:=run_yield (P:=P) (args:=vs.toArray) hl2 (by rw[hrc];simpa using hvl)
  refine⟨_,_,_,_,hy2,?_⟩
  have hF:(FF none).inRound (h.size+1)=FF (some (h.size+1)):=rfl
  refine roundIn_of_wpIn (F:=FF none) (n:=0) (Jr none _) ?_
  rw[hF]
  have hfr:Fr (k,[]) { tmps:=(rc.params.zip vs.toArray).foldl (λtmps (t,a)=>tmps.setIfInBounds t a) rc.tmps,defers:=[]} (parm m (ps.toList.zip vs)):=by
   have:=Fr.parm (n:=(k,[])) (ps.toList.zip vs) (t:=a.tmps) (m:=m) (λp hp=>List.all_eq_true.1 hnd3 _ (List.of_mem_zip hp).1) ⟨rfl,hf.siz,hf.at_⟩
   have e:(rc.params.zip vs.toArray).foldl (λtmps (t,a)=>tmps.setIfInBounds t a) rc.tmps=(ps.toList.zip vs).foldl (λt p=>t.setIfInBounds p.1 p.2) a.tmps:=by
    rw[hrc,←Array.foldl_toList]
    simp
   rw[e]
   exact this
  have ea:rc.assign=assign:=by rw[hrc]
  have eb:rc.body=body:=by rw[hrc]
  rw[ea,eb]
  refine wpIn_mono (hasg vs B2 h2 hvl _ w2 hfr wd2 (some (h.size+1)) (.inr hnd1)) λe a1 w3 q=>?_
  cases e with
  |normal=>
   obtain⟨hf1,wd3⟩:=q
   have hl3:w3.heap[h.size+1]? =some (.loop rc):=by rw[wd3.heap];exact g1
   refine⟨_,run_beginRound hl3 (by rw[hrc]),?_⟩
   have wd4:=wd3.putObj (h.size+1) (.loop { rc with state:= .busy})
   have st4:=St.mid g2
   refine wpIn_mono (hbody x s out vs S2 _ (PB (h.size+1) { rc with state:= .busy}::L2) B2 hy (e1.trans (e2.trans g3)) (ham ar g3) st4 a1 _ hf1 wd4 (some (h.size+1)) (.inr hnd2)) λe a5 w5 q=>?_
   have fin:∀(b:Bool) (jump:Option Code),(jump=if b then none else some (.exit i0))→RN B2 S2 (h2.setIfInBounds (h.size+1) (.loop { rc with state:= .busy})) J (PB (h.size+1) { rc with state:= .busy}::L2) out b a5 w5→
     ∃v w',(Instr.endRound (h.size+1) jump).run P w5= .ok v w'∧∃S' h',Ending.returned v= .returned (.bool out.1)∧Wd B2 h' w'∧Bg S2 h2 S' h'∧St S' (YR (h.size+1) rc (.exit i0) J out.1 out.2::L2) h':=by
    rintro b jump hj ⟨hb,S6,h6,wd6,e6,st6⟩
    have u6:=Ur st6
    obtain⟨p1,p2,p3⟩:=St.rec (r':=MF rc (.exit i0) b) u6
    have hl6:w5.heap[h.size+1]? =some (.loop { rc with state:= .busy}):=by rw[wd6.heap];exact p1
    have hend:=run_endRound (P:=P) jump hl6
    have hrb:({ rc with state:=if jump.isNone then .ready else .done,pending:=jump}:Loop)=MF rc (.exit i0) b:=by
     subst hj;cases b<;>rfl
    have hjb:jump.isNone=b:=by subst hj;cases b<;>rfl
    rw[hjb] at hend
    have hrb2:({ { rc with state:=LoopState.busy} with state:=if b then .ready else .done,pending:=jump}:Loop)=MF rc (.exit i0) b:=by rw[←hrb,hjb]
    rw[hrb2] at hend
    refine⟨_,_,hend,S6,_,by rw[hb],wd6.putObj _ _,g3.trans (e6.trans p3),?_⟩
    rw[hb]
    exact Rx (L1:=PB (h.size+1) (MF rc (.exit i0) b)::J out.2) p2
   cases e with
   |normal=>exact fin true none rfl q
   |exit id=>
    simp only[Qx,VQ] at q
    cases hb:Nat.beq i0 id with
    |true=>
     rw[hb] at q
     have hid:i0=id:=Nat.eq_of_beq_eq_true hb
     subst hid
     exact fin false (some (.exit i0)) rfl q
    |false=>rw[hb] at q;exact q.elim
   |ret=>exact q.elim
   |goto t=>exact q.elim
   |panic c=>exact q.elim
   |outgrown=>exact q.elim
  |exit id=>simp only[Qx,VQ] at q
  |ret=>exact q.elim
  |goto t=>exact q.elim
  |panic c=>exact q.elim
  |outgrown=>exact q.elim
 have hret:=hiter (.func (.yield (h.size+1)) #[] #[]) (YR (h.size+1) rc (.exit i0) J) S _ (Uz (h.size::Ds)::L) e1 yc sY
 have hev:=hf.eval hg
 refine⟨w.heap.size+1,[{ target:= .collected w.heap.size,args:= #[]}],(w.alloc (.deferred (some []))).alloc (.loop rc),{ target:= .fn (.func f) caps,args:= #[.func (.yield (w.heap.size+1)) #[] #[]]},(w.alloc (.deferred (some []))).alloc (.loop rc),f,#[.func (.yield (w.heap.size+1)) #[] #[]]++caps,(w.alloc (.deferred (some []))).alloc (.loop rc),?_,?_,λ_ _=>Jr none _,?_,λhd=>(by rw[Hw] at hd;cases hd),?_⟩
 ·rw[hrc];exact run_enterLoop_outer _ _ _ _ _
 ·simp only[resolve,hev,rangeCall]
  simp [go_sem,Deferred.ofValue]
 ·simp [invoke,SB hcb]
 ·rw[hz]
  refine O2 ((hret B _ hw1).mono λe w5 q=>?_)
  obtain⟨v,S5,h5,rfl,wd5,e5,st5⟩:=q
  have u:=ON st5
  obtain⟨p1,p2,p3⟩:=St.rec (r':={ MF rc (.exit i0) r.1 with state:= .exhausted}) u
  have hl5:w5.heap[h.size+1]? =some (.loop (MF rc (.exit i0) r.1)):=by rw[wd5.heap];exact p1
  refine⟨_,_,run_endLoop hl5 (by unfold MF;cases r.1<;>simp),?_⟩
  have wd6:=wd5.putObj (h.size+1) (.loop { MF rc (.exit i0) r.1 with state:= .exhausted})
  have st6:=p2.drop .head
  have hpe:(MF rc (.exit i0) r.1).pending=if r.1 then none else some (.exit i0):=rfl
  generalize ({ MF rc (.exit i0) r.1 with state:= .exhausted}:Loop)=rx at*
  rw[hpe]
  clear hpe hl5 p1 u st5 hret
  have hfm:Fr (k,Me (h.size::Ds)) { a with defers:=[{ target:= .collected h.size,args:= #[]}]++a.defers} m:=⟨by show _::a.defers=_;rw[hf.dfr];rfl,hf.siz,hf.at_⟩
  cases hr:r.1 with
  |true=>
   exact hgo hr S5 _ h.size (e1.trans (e5.trans p3)) st6 _ _ hfm wd6
  |false=>
   exact hout hr S5 _ h.size (e1.trans (e5.trans p3)) st6 _ _ hfm wd6 none (.inl rfl)
end
def Pu (p:Prop):HP where
 holds:=λ_ F _=>p∧∀b,¬F b
 loc:=λk _ _=>k
section
variable {S:Nat→Prop}{L:List HP}{h:Ac}
theorem WK {p:Prop}(hs:St S (Pu p::L) h):p∧St S L h:=by
 obtain⟨F,k,_⟩:=hs.get (List.mem_cons_self ..)
 exact⟨k.1,hs.drop .head⟩
theorem Ry {p:Prop}(hs:St S L h) (k:p):St S (Pu p::L) h:=(hs.add (H':=Pu p) (Nat.le_refl _) (λ_ _=>rfl) ⟨λ_=>False,⟨k,λ_ x=>x⟩,λ_ x=>x.elim⟩).1
theorem Xb (hs:St S L h):St S (Uz []::L) h:=(hs.add (H':=Uz []) (Nat.le_refl _) (λ_ _=>rfl) ⟨λ_=>False,⟨List.nodup_nil,λb=>⟨λx=>x.elim,λx=>by cases x⟩,λD hD=>by cases hD⟩,λ_ x=>x.elim⟩).1
end
section
variable {P:Program}{ops:Array Oper}{Q:Exit→Act→World→Prop}{n:FN}{m m':SM}{rest l:List Oper}{B:World}{h:Ac}{S:Nat→Prop}{L:List HP}
theorem Uq {α σ:Type}{yv:Value}{Y:Bool→σ→HP}{AR:Qv α}{yld:α→σ→Option (Bool×σ)}{S0:Nat→Prop}{h0:Ac}{X:Operand}{xs:Array Operand}{tys:Array TypeId}{vs:List Value}{d:Nat}{ty:TypeId}{pos:String}{af:Array Edge}{x:α}{s:σ}{out:Bool×σ}
  (yc:YC P yv Y AR yld S0 h0) (hX:BW m X=some yv) (hxs:xs.toList.mapM (BW m)=some vs) (hy:yld x s=some out) (e0:Bg S0 h0 S h) (hs:St S (Y true s::L) h) (ha:AR S h vs x) (hd:Nat.blt d n.1=true)
  (k1:out.1=true→∀S' h',Bg S h S' h'→St S' (Y true out.2::L) h'→YL P ops Q rest B h' n ((d,.bool true)::m))
  (k2:out.1=false→∀S' h',Bg S h S' h'→St S' (Y false out.2::L) h'→YL P ops Q rest B h' n ((d,.bool false)::m)):YL P ops Q (⟨some d,.call ⟨.value X,xs,tys⟩,ty,pos,af,none⟩::rest) B h n m:=
 Zj yc hX hxs hy e0 hs ha hd λS' h' e hs=>by
  cases hb:out.1 with
  |true=>rw[hb] at hs;exact k1 hb S' h' e hs
  |false=>rw[hb] at hs;exact k2 hb S' h' e hs
end
section
variable {P:Program}{fn:Func}{B:World}{S S':Nat→Prop}{h h':Ac}{post:Value→(Nat→Prop)→Ac→Prop}{a:Act}{m:SM}{w:World}{L:List HP}
theorem X9 {k:Nat}{Ds:List Nat}{rs:List ResultVar}{vs:List Value}{v:Value}(hf:Fr (k,Me Ds) a m) (hr:fn.results.toList=rs) (hw:Wd B h' w) (hs:St S' (Uz Ds::L) h') (hv:Wa vs=v) (e:Bg S h S' h')
  (fin:∀w2 h2,Wd B h2 w2→St S' L h2→Bg S' h' S' h2→SW P w2 a rs vs∧post v S' h2):Rt P fn B S h post a w:=by
 obtain⟨F,k1,k2,k3⟩:=hs.2
 refine⟨Ds,hf.dfr,k1.1,λD hD=>by rw[hw.heap];exact k1.2.2 D hD,λw2 h1 h2 h3 h4 h5=>?_⟩
 have hsame:∀b,S' b→w2.heap[b]? =h'[b]? :=λb hb=>by rw[h5 b λhm=>(k2 b ((k1.2.1 b).2 hm)).2 hb,hw.heap]
 have hz:h'.size≤w2.heap.size:=by rw[h4,hw.heap];exact Nat.le_refl _
 have e2:Bg S' h' S' w2.heap:=⟨λ_ x=>x,hsame,hz⟩
 have st2:St S' L w2.heap:=⟨λb hb=>Nat.lt_of_lt_of_le (hs.1 b hb) hz,Sp.ext k3 (λ_ x=>x) (λb hb=>hb.elim (hsame b) λx=>by rw[h5 b λhm=>x.2 ((k1.2.1 b).2 hm),hw.heap]) λb hb=>⟨Nat.lt_of_lt_of_le hb.1.1 hz,hb.1.2⟩⟩
 have hw2:Wd B w2.heap w2:=⟨rfl,h1.trans hw.os,h2.trans hw.tape,h3.trans hw.out⟩
 obtain⟨q1,q2⟩:=fin w2 _ hw2 st2 e2
 exact⟨v,by rw[←hv];exact Ma hr q1,S',_,hw2,e.trans e2,q2⟩
end
end Go.Proofs.YtibidnaedddfdaaGreat
