import Derived.Test.YtibidnaedddfdaaGreatDCore17
namespace Go.Proofs.YtibidnaedddfdaaGreat
set_option linter.all false
open Go.RowKit
def bK (L:List HP):HP where
 holds:=λS F h=>Sp S L h F
 loc:=λk s e=>Sp.ext k s e λ_ x=>x
def Rc (l:Nat) (r:Loop):HP where
 holds:=λ_ F h=>(∀b,F b↔b=l)∧h[l]? =some (.loop r)
 loc:=λ⟨a,c⟩ _ e=>⟨a,(e l (.inr ((a l).2 rfl))).trans c⟩
def XE {S:Nat→Prop}{h:BB}:∀{L1 L:List HP}{A:Nat→Prop},Sp S (L1++L) h A→∃F,Sp S L1 h F∧(∀b,F b→A b)∧Sp S L h (λb=>A b∧¬F b)
 |[],L,A,k=>⟨λ_=>False,trivial,λ_ x=>x.elim,k.mono λb a=>⟨a,λx=>x⟩⟩
 |H::L1,L,A,⟨F,d,g,i⟩=>by
  obtain⟨G,j,c,l⟩:=XE i
  refine⟨λb=>F b∨G b,⟨F,d,λb a=> .inl a,j.mono λb a=>⟨.inr a,(c b a).2⟩⟩,λb a=>a.elim (g b) λx=>(c b x).1,l.mono λb a=>⟨a.1.1,λx=>x.elim a.1.2 a.2⟩⟩
def Sp.app2 {S:Nat→Prop}{h:BB}:∀{L1 L:List HP}{A F:Nat→Prop},Sp S L1 h F→(∀b,F b→A b)→Sp S L h (λb=>A b∧¬F b)→Sp S (L1++L) h A
 |[],L,A,F,_,_,k=>k.mono λb a=>a.1
 |H::L1,L,A,F,⟨G,d,c,g⟩,i,k=>⟨G,d,λb a=>i b (c b a),Sp.app2 g (λb a=>⟨i b a.1,a.2⟩) (k.mono λb a=>⟨⟨a.1,λx=>a.2 (c b x)⟩,λx=>a.2 x.1⟩)⟩
section
variable {S:Nat→Prop}{L L1 M:List HP}{h:BB}{H:HP}
def UY (a:St S (L1++L) h):St S (bK L1::L) h:=by
 obtain⟨F,b,c,d⟩:=XE a.2
 exact⟨a.1,F,b,c,d⟩
def Qe (a:St S (bK L1::L) h):St S (L1++L) h:=by
 obtain⟨F,b,c,d⟩:=a.2
 exact⟨a.1,Sp.app2 b c d⟩
def PL:∀{M:List HP},Ml (M++H::L) H (M++L)
 |[]=> .head
 |K::M=> .tail PL
def R7 {H':HP}:∀{M:List HP},KA (M++H::L) H H' (M++H'::L)
 |[]=> .head
 |K::M=> .tail R7
def St.mid (a:St S (H::(M++L)) h):St S (M++H::L) h:=⟨a.1,Mb PL a.2⟩
def XC (a:St S (M++H::L) h):St S (H::(M++L)) h:=⟨a.1,Sp.pick PL a.2⟩
def St.rec {l:Nat}{r r':Loop}(d:St S (Rc l r::L) h):h[l]? =some (.loop r)∧St S (Rc l r'::L) (h.setIfInBounds l (.loop r'))∧Cm S h S (h.setIfInBounds l (.loop r')):=by
 obtain⟨F,k,_⟩:=d.get (kI ..)
 have a:l<h.size:=(jM.1 k.2).1
 refine⟨k.2,d.upd (H':=Rc l r') .head (by simp) λF g _=>⟨F,⟨g.1,by simp [a]⟩,λ_ c=> .inl c,λb _ c=>?_⟩⟩
 have:b≠l:=λe=>c ((g.1 b).2 e)
 simp [Array.getElem?_setIfInBounds_ne (Ne.symm this)]
end
def Wd.putObj {B w:World}{h:BB}(k:Wd B h w) (l:Nat) (o:Obj):Wd B (h.setIfInBounds l o) (w.putObj l o):=⟨by show w.heap.setIfInBounds l o=_;rw[k.heap],k.os,k.tape,k.out⟩
abbrev Rj (a:Type):=(Nat→Prop)→BB→List Value→a→Prop
def YC {m σ:Type}(P:Program) (i:Value) (Y:Bool→σ→HP) (AR:Rj m) (g:m→σ→Option (Bool×σ)) (j:Nat→Prop) (h0:BB):Prop:=
 ∃l,i= .func (.yield l) #[] #[]∧∀(x:m) (s:σ) (b:Bool×σ),g x s=some b→∀(S:Nat→Prop) (L:List HP) (h:BB) (vs:List Value) (B w:World),Cm j h0 S h→St S (Y true s::L) h→AR S h vs x→Wd B h w→
  ∃fn c a d,(Instr.yield l vs.toArray).run P w= .ok (.round l fn c a d) w∧
   RoundIn Fence.wide 0 P l fn c a d w (λe k=>∃S' h',e= .returned (.bool b.1)∧Wd B h' k∧Cm S h S' h'∧St S' (Y b.1 b.2::L) h')
def YC.mono {o σ:Type}{P:Program}{c:Value}{Y:Bool→σ→HP}{AR:Rj o}{a:o→σ→Option (Bool×σ)}{d g:Nat→Prop}{h0 i:BB}(k:YC P c Y AR a d h0) (e:Cm d h0 g i):YC P c Y AR a g i:=by
 obtain⟨l,j,k⟩:=k
 exact⟨l,j,λx s b m S L h vs B w n=>k x s b m S L h vs B w (e.trans n)⟩
def YL (P:Program) (ops:Array Oper) (Q:Exit→Act→World→Prop) (l:List Oper) (B:World) (h:BB) (n:FN) (m:SM):Prop:=∀a w,Fr n a m→Wd B h w→wpListIn (FF none) 0 P ops Q l a w
def Tt {P:Program}{l:Nat}{f:FuncId}{b:Array Value}{a d:Code}{w:World}{R:Ending→World→Prop}{g:Option Nat}{n i:Nat}(h:RoundIn Fence.wide n P l f b a d w R):RoundIn (FF g) i P l f b a d w R:=
 ⟨LU g f,λc cs _=>by rw[Md];exact h.2 c cs (room_wide _)⟩
def Lu {P:Program}{ops:Array Oper}{Q:Exit→Act→World→Prop}{g:Option Nat}:∀(l:List Oper) (a:Act) (w:World),(g=none∨l.all U8=true)→wpListIn (FF none) 0 P ops Q l a w→wpListIn (FF g) 0 P ops Q l a w
 |[],_,_,_,h=>h
 |o::rest,a,w,i,h=>by
  have q:g=none∨U8 o=true:=i.imp (λx=>x) λh=>by simp only[List.all_cons,iQ] at h;exact h.1
  have j:g=none∨rest.all U8=true:=i.imp (λx=>x) λh=>by simp only[List.all_cons,iQ] at h;exact h.2
  unfold wpListIn at h ⊢
  split
  ·rename_i n
   rw[iR n] at h
   refine⟨λf _=>LU g f,?_⟩
   have b:=h.2
   have s:o.semAt (FF g).round a.eval=o.semAt (FF none).round a.eval:=by
    rw[P1,P1]
    cases g with
    |none=>rfl
    |some l=>exact Oper.semAt_some l _ _ λc t=>q.elim (λi=>by cases i) λi=>by unfold U8 at i;rw[t] at i;cases i
   rw[s]
   generalize (o.semAt (FF none).round a.eval).run P w=r at b
   cases r with
   |ok u y=>
    cases u<;>simp only[Oper.uponIn] at b ⊢
    case value v=>exact Lu rest _ _ j b
    case skip=>exact Lu rest _ _ j b
    case defer d=>exact Lu rest _ _ j b
    case enter f args=>exact⟨λhd=>(by rw[JW] at hd;cases hd),RJ ((callsIn_wide.1 b.2).mono λe k m=>by cases e<;>first|exact Lu rest _ _ j m|exact m)⟩
    case row r args=>exact⟨λhd=>(by rw[JW] at hd;cases hd),λc cs _=>by
     obtain⟨v,k,z,p⟩:=b.2 c cs (Yi none _)
     exact⟨v,k,Lu rest _ _ j z,by rw[Md] at p ⊢;exact p⟩⟩
    case round l f tmps assign body=>exact⟨λhd=>(by rw[JW] at hd;cases hd),Tt (RoundIn.mono b.2 λe k m=>by cases e<;>first|exact Lu rest _ _ j m|exact m)⟩
   |halt x y=>cases x<;>simp only[Oper.uponIn] at b ⊢;exact b
  ·rename_i n
   rw[iP n] at h
   exact⟨λf _=>LU g f,Lu rest _ w j h.2⟩
section
variable {P:Program}{ex:List (Nat×AP)}{R N:AP}{cs:List Code}{B:World}{h:BB}{n:FN}{m m':SM}{S:Nat→Prop}{L:List HP}
def XA {l:List Oper}{id:Nat}(k:YL P l.toArray (Qx ex R (W P ex R cs N)) l B h n m):WF P ex R (.region id l.toArray false::cs) N B h n m:=λa w b c d hd=>
 wpIn_region_lit (Lu l a w (hd.imp (λx=>x) λh=>by simpa [Sy] using h) (k a w b c))
end
section
variable {P:Program}{ops:Array Oper}{Q:Exit→Act→World→Prop}{n:FN}{m m':SM}{rest l:List Oper}{B:World}{h:BB}{S:Nat→Prop}{L:List HP}
def LA (g:∀a w,¬Q .outgrown a w):∀(k:Nat) (l:List Oper) (a:Act) (w:World),wpList P ops (Exit.then (wpListIn (FF none) 0 P ops Q (l.drop k)) Q) (l.take k) a w→wpListIn (FF none) 0 P ops Q l a w
 |0,l,a,w,h=>by simpa [wpList,Exit.then] using h
 |k+1,[],a,w,h=>by simpa [wpList,Exit.then] using h
 |k+1,o::l,a,w,h=>by
  simp only[List.take_succ_cons,List.drop_succ_cons] at h
  unfold wpList at h
  unfold wpListIn
  split
  ·rename_i i
   rw[iR i] at h
   have b:=h.imp (Oper.wp_mono λa w p=>LA g k l a w p) id
   refine Zk (.inl rfl) g ?_
   rcases b with b|⟨_,j,m,h2⟩
   ·refine .inl ?_
    unfold Oper.wp at b ⊢
    generalize (execOp a.eval o).run P w=r at b
    cases r with
    |ok q s=>
     cases q<;>simp only[Oper.upon] at b ⊢
     case value v=>exact b
     case skip=>exact b
     case defer d=>exact b
     case enter f args=>
      refine b.mono λe t n=>?_
      cases e with
      |returned v=>exact n
      |panicked c=>exact n
      |outgrown=>obtain⟨j,m,h0⟩:=n;exact⟨j,m,h0⟩
     case row r args=>exact b
    |halt x s=>cases x<;>simp only[Oper.upon] at b ⊢;exact b
   ·exact absurd h2 (g j m)
  ·rename_i i
   rw[iP i] at h
   exact⟨λf _=>LU none f,LA g k l _ w h⟩
def J8 (j:Nat) (c:∀a w,¬Q .outgrown a w) (k:QF P ops (Wd B h) (λa=>∀w,Wd B h w→wpListIn (FF none) 0 P ops Q (l.drop j) a w) (l.take j) n m):YL P ops Q l B h n m:=λa w d b=>
 LA c j l a w (I7 (Q:=Exit.then (wpListIn (FF none) 0 P ops Q (l.drop j)) Q) (λ_ w b g=>g w b) (l.take j) a w b (k a d))
def KC {C:World→Prop}(k:YL P ops Q l B h n m):QF P ops C (λa=>∀w,Wd B h w→wpListIn (FF none) 0 P ops Q l a w) [] n m:=λa b w c=>k a w b c
def fH (j:Nat) (b:∀a w,¬Q .outgrown a w) (k:LF P ops (Exit.then (wpListIn (FF none) 0 P ops Q (l.drop j)) Q) (l.take j) B h n m):YL P ops Q l B h n m:=λa w c d=>LA b j l a w (k a w c d)
def fN (k:YL P ops Q l B h n m):LF P ops (Exit.then (wpListIn (FF none) 0 P ops Q l) Q) [] B h n m:=λa w b c=>k a w b c
def YL.nil {ex:List (Nat×AP)}{R N:AP}{cs:List Code}(b:QC m m') (k:WF P ex R cs N B h n m'):YL P ops (Qx ex R (W P ex R cs N)) [] B h n m:=λa w c d=>k a w (c.sub b) d
def YL.gy {o:Oper}{j e:Nat}{b:Bool}(g:o.guard=some (j,b)) (i:(ops[j]?).bind (·.dst)=some e) (l:lk m e=some (.bool b)) (k:YL P ops Q ({ o with guard:=none}::rest) B h n m):YL P ops Q (o::rest) B h n m:=by
 intro a w d p
 have q:Region.wanted o (yielded ops a.tmps)=true:=by
  have:=d.at_ e _ l
  simp [Region.wanted,g,yielded,i,this]
 have c:=k a w d p
 unfold wpListIn at c ⊢
 rw[iR (by simp [Region.wanted])] at c
 rw[iR q]
 exact c
def YL.gn {o:Oper}{j e d:Nat}{b:Bool}(g:o.guard=some (j,!b)) (i:(ops[j]?).bind (·.dst)=some e) (l:lk m e=some (.bool b)) (p:o.dst=some d) (hd:Nat.blt d n.1=true) (k:YL P ops Q rest B h n ((d,undef)::m)):YL P ops Q (o::rest) B h n m:=by
 intro a w c q
 have s:Region.wanted o (yielded ops a.tmps)=false:=by
  have:=c.at_ e _ l
  cases b<;>simp [Region.wanted,g,yielded,i,this]
 unfold wpListIn
 rw[iP (by rw[s];exact Bool.false_ne_true),p]
 exact⟨λf _=>LU none f,k _ w (c.put hd _) q⟩
def gZ {α σ:Type}{C:Value}{Y:Bool→σ→HP}{AR:Rj α}{j:α→σ→Option (Bool×σ)}{D:Nat→Prop}{h0:BB}{X:Operand}{xs:Array Operand}{c:Array TypeId}{vs:List Value}{d:Nat}{ty:TypeId}{g:String}{t:Array Edge}{x:α}{s:σ}{b:Bool×σ}
  (u:YC P C Y AR j D h0) (F:CE m X=some C) (v:xs.toList.mapM (CE m)=some vs) (G:j x s=some b) (H:Cm D h0 S h) (I:St S (Y true s::L) h) (J:AR S h vs x) (hd:Nat.blt d n.1=true)
  (k:∀S' h',Cm S h S' h'→St S' (Y b.1 b.2::L) h'→YL P ops Q rest B h' n ((d,.bool b.1)::m)):YL P ops Q (⟨some d,.call ⟨.value X,xs,c⟩,ty,g,t,none⟩::rest) B h n m:=by
 intro a w z K
 obtain⟨l,rfl,u⟩:=u
 obtain⟨fn,o,i,p,M,U⟩:=u x s b G S L h vs B w H I J K
 unfold wpListIn
 rw[iR (by simp [Region.wanted])]
 refine⟨λf _=>LU none f,?_⟩
 have q:(execOp a.eval ⟨some d,.call ⟨.value X,xs,c⟩,ty,g,t,none⟩).run P w= .ok (.round l fn o i p) w:=by
  have V:=z.eval F
  have W:=UK z v
  simp [execOp,resolve,Deferred.ofValue,invoke,V,W,M]
 have A:(⟨some d,.call ⟨.value X,xs,c⟩,ty,g,t,none⟩:Oper).semAt (FF none).round a.eval=execOp a.eval ⟨some d,.call ⟨.value X,xs,c⟩,ty,g,t,none⟩:=rfl
 rw[A,q]
 refine⟨λhd=>(by rw[JW] at hd;cases hd),Tt (RoundIn.mono U λe Z he=>?_)⟩
 obtain⟨S',h',rfl,r1,r2,r3⟩:=he
 exact k S' h' r2 r3 _ Z (z.put hd _) r1
end
def Ul {P:Program}{f:Nat}(a:Br P f=true) (args:Array Value) (w:World):(callFunc f args).run P w= .ok (.enter f args) w:=by
 unfold Br at a
 split at a
 ·rename_i fn b
  simp only[iQ,jI] at a
  have c:¬fn.name= "runtime.NumGoroutine" :=by simpa using a.1
  have d:¬fn.body=none:=by intro h0;rw[h0] at a;simp at a
  simp [callFunc,b,c,d]
 ·cases a
def parm (m:SM):List (Nat×Value)→SM
 |[]=>m
 |p::r=>parm (p::m) r
def Fr.parm {n:FN}:∀(l:List (Nat×Value)) {t:Array Value}{m:SM},(∀p,p∈l→Nat.blt p.1 n.1=true)→Fr (n.1,[]) { tmps:=t,defers:=[]} m→Fr (n.1,[]) { tmps:=l.foldl (λt p=>t.setIfInBounds p.1 p.2) t,defers:=[]} (parm m l)
 |[],t,m,_,k=>k
 |p::l,t,m,a,k=>Fr.parm l (λq b=>a q (kS _ b)) (k.put (a p (kI ..)) p.2)
def OD (r:Loop) (a:Code) (b:Bool):Loop:={ r with state:=if b then .ready else .done,pending:=if b then none else some a}
def YR {σ:Type}(l:Nat) (r:Loop) (a:Code) (J:σ→List HP):Bool→σ→HP:=λb s=>bK (Rc l (OD r a b)::J s)
section
variable {P:Program}{ex:List (Nat×AP)}{R N:AP}{cs:List Code}{B:World}{h:BB}{k:Nat}{Ds:List Nat}{m:SM}{S:Nat→Prop}{L:List HP}
def RN {σ:Type}(B:World) (i:Nat→Prop) (j:BB) (J:σ→List HP) (L1:List HP) (c:Bool×σ) (b:Bool):AP:=λa w=>c.1=b∧∃g d,Wd B d w∧Cm i j g d∧St g (J c.2++L1) d
set_option maxHeartbeats 1000000 in
def XB {α σ:Type}{g:Operand}{M:Array Tmp}{C G:Code}(j:Nat) {f:Nat}{y:Array Value}(J:σ→List HP) (s0:σ) (AR:Rj α) (V:α→σ→Option (Bool×σ)) (r:Bool×σ) (m2:List Value→SM)
  (hg:CE m g=some (.func (.func f) #[] y)) (av:Br P f=true) (aa:(Sy C&&Sy G&&M.toList.all λp=>Nat.blt p k)=true) (hs:St S (J s0++Sw Ds::L) h)
  (aw:∀{S h vs x},AR S h vs x→vs.length=M.size) (ax:∀{S h S' h' vs x},AR S h vs x→Cm S h S' h'→AR S' h' vs x)
  (W:∀yv (Y:Bool→σ→HP) K z L1,Cm S h K z→YC P yv Y AR V K z→St K (Y true s0::L1) z→Ct P f (#[yv]++y) K z (λv S' h'=>St S' (Y r.1 r.2::L1) h'))
  (ab:∀vs B z,vs.length=M.size→WF P [] (λ_ _=>False) [C] (λa w=>Fr (k,[]) a (m2 vs)∧Wd B z w) B z (k,[]) (parm m (M.toList.zip vs)))
  (X:∀x s l vs K z L1 B,V x s=some l→Cm S h K z→AR K z vs x→St K (J s++L1) z→WF P [(j,RN B K z J L1 l false)] (λ_ _=>False) [G] (RN B K z J L1 l true) B z (k,[]) (m2 vs))
  (ay:r.1=true→∀S' h' D,Cm S h S' h'→St S' (J r.2++Sw (D::Ds)::L) h'→WF P ex R cs N B h' (k,LP (D::Ds)) m)
  (ac:r.1=false→∀S' h' D,Cm S h S' h'→St S' (J r.2++Sw (D::Ds)::L) h'→WF P ex R (.exit j::cs) N B h' (k,LP (D::Ds)) m):
  WF P ex R (.rangeFunc g M C G::cs) N B h (k,LP Ds) m:=by
 intro a w Z hw rd hd
 simp only[iQ] at aa
 obtain⟨⟨ad,ae⟩,af⟩:=aa
 have az:rd=none:=hd.elim (λx=>x) λh=>by cases h
 subst az
 clear hd
 refine wpIn_rangeFunc λfn bg=>?_
 obtain⟨d,o⟩:∃d:Loop,d={ state:= .ready,pending:=none,fn,tmps:=a.tmps,params:=M,assign:=C,body:=G,defers:=w.heap.size}:=⟨_,rfl⟩
 have hz:w.heap.size=h.size:=by rw[hw.heap]
 have ag:OD d (.exit j) true=d:=by rw[o];rfl
 have s1:=hs.upd (H':=Sw (h.size::Ds)) (h':=h.push (.deferred (some []))) R7 (by simp) λF q1 q2=>⟨λb=>F b∨b=h.size,⟨List.nodup_cons.2 ⟨λhm=>by have:=(q2 _ ((q1.2.1 _).2 hm)).1;omega,q1.1⟩,λb=>by rw[iZ,←q1.2.1 b];exact Or.comm,λD hD=>by
   rcases iZ.1 hD with rfl|hD
   ·exact Iq _ _
   ·rw[Ft _ _ _ (q2 D ((q1.2.1 D).2 hD)).1];exact q1.2.2 D hD⟩,λb A=>A.imp (λx=>x) λe=>by subst e;simp,λb A _=>Ft _ _ _ A⟩
 have s2:=s1.1.add (H':=Rc (h.size+1) d) (h':=(h.push (.deferred (some []))).push (.loop d)) (by simp) (λb A=>Ft _ _ _ A) ⟨λb=>b=h.size+1,⟨λ_=>Iff.rfl,by have:=Iq (h.push (.deferred (some []))) (.loop d);simpa using this⟩,λb A=>by subst A;simp⟩
 have a0:Wd B ((h.push (.deferred (some []))).push (.loop d)) ((w.alloc (.deferred (some []))).alloc (.loop d)):=(hw.alloc _).alloc _
 have e1:Cm S h S ((h.push (.deferred (some []))).push (.loop d)):=s1.2.trans s2.2
 have sY:St S (YR (h.size+1) d (.exit j) J true s0::Sw (h.size::Ds)::L) ((h.push (.deferred (some []))).push (.loop d)):=by
  refine UY (L1:=Rc (h.size+1) (OD d (.exit j) true)::J s0) ?_
  rw[ag]
  exact s2.1
 have yc:YC P (.func (.yield (h.size+1)) #[] #[]) (YR (h.size+1) d (.exit j) J) AR V S ((h.push (.deferred (some []))).push (.loop d)):=by
  refine⟨h.size+1,rfl,λx s l hy S2 L2 h2 vs B2 w2 e2 a2 ar ah=>?_⟩
  have u:=Qe a2
  rw[ag] at u
  obtain⟨g1,g2,g3⟩:=St.rec (r':={ d with state:= .busy}) u
  have a3:w2.heap[h.size+1]? =some (.loop d):=by rw[ah.heap];exact g1
  have ai:=aw ar
  have a4:=run_yield (P:=P) (args:=vs.toArray) a3 (by rw[o];simpa using ai)
  refine⟨_,_,_,_,a4,?_⟩
  have hF:(FF none).inRound (h.size+1)=FF (some (h.size+1)):=rfl
  refine roundIn_of_wpIn (F:=FF none) (n:=0) (LU none _) ?_
  rw[hF]
  have a6:Fr (k,[]) { tmps:=(d.params.zip vs.toArray).foldl (λtm (t,a)=>tm.setIfInBounds t a) d.tmps,defers:=[]} (parm m (M.toList.zip vs)):=by
   have:=Fr.parm (n:=(k,[])) (M.toList.zip vs) (t:=a.tmps) (m:=m) (λp hp=>iT.1 af _ (List.of_mem_zip hp).1) ⟨rfl,Z.siz,Z.at_⟩
   have e:(d.params.zip vs.toArray).foldl (λtm (t,a)=>tm.setIfInBounds t a) d.tmps=(M.toList.zip vs).foldl (λt p=>t.setIfInBounds p.1 p.2) a.tmps:=by
    rw[o,←Array.foldl_toList]
    simp
   rw[e]
   exact this
  have ea:d.assign=C:=by rw[o]
  have eb:d.body=G:=by rw[o]
  rw[ea,eb]
  refine wpIn_mono (ab vs B2 h2 ai _ w2 a6 ah (some (h.size+1)) (.inr ad)) λe a1 w3 q=>?_
  cases e with
  |normal=>
   obtain⟨a7,aj⟩:=q
   have a8:w3.heap[h.size+1]? =some (.loop d):=by rw[aj.heap];exact g1
   refine⟨_,run_beginRound a8 (by rw[o]),?_⟩
   have a9:=aj.putObj (h.size+1) (.loop { d with state:= .busy})
   have ba:=St.mid g2
   refine wpIn_mono (X x s l vs S2 _ (Rc (h.size+1) { d with state:= .busy}::L2) B2 hy (e1.trans (e2.trans g3)) (ax ar g3) ba a1 _ a7 a9 (some (h.size+1)) (.inr ae)) λe a5 w5 q=>?_
   have ak:∀(b:Bool) (i:Option Code),(i=if b then none else some (.exit j))→RN B2 S2 (h2.setIfInBounds (h.size+1) (.loop { d with state:= .busy})) J (Rc (h.size+1) { d with state:= .busy}::L2) l b a5 w5→
     ∃v w',(Instr.endRound (h.size+1) i).run P w5= .ok v w'∧∃S' h',Ending.returned v= .returned (.bool l.1)∧Wd B2 h' w'∧Cm S2 h2 S' h'∧St S' (YR (h.size+1) d (.exit j) J l.1 l.2::L2) h':=by
    rintro b i hj ⟨A,S6,h6,H,e6,Q⟩
    have u6:=XC Q
    obtain⟨p1,p2,p3⟩:=St.rec (r':=OD d (.exit j) b) u6
    have bb:w5.heap[h.size+1]? =some (.loop { d with state:= .busy}):=by rw[H.heap];exact p1
    have I:=run_endRound (P:=P) i bb
    have bc:({ d with state:=if i.isNone then .ready else .done,pending:=i}:Loop)=OD d (.exit j) b:=by
     subst hj;cases b<;>rfl
    have al:i.isNone=b:=by subst hj;cases b<;>rfl
    rw[al] at I
    have am:({ { d with state:=LoopState.busy} with state:=if b then .ready else .done,pending:=i}:Loop)=OD d (.exit j) b:=by rw[←bc,al]
    rw[am] at I
    refine⟨_,_,I,S6,_,by rw[A],H.putObj _ _,g3.trans (e6.trans p3),?_⟩
    rw[A]
    exact UY (L1:=Rc (h.size+1) (OD d (.exit j) b)::J l.2) p2
   cases e with
   |normal=>exact ak true none rfl q
   |exit id=>
    simp only[Qx,Xx] at q
    cases A:Nat.beq j id with
    |true=>
     rw[A] at q
     have be:j=id:=iX A
     subst be
     exact ak false (some (.exit j)) rfl q
    |false=>rw[A] at q;exact q.elim
   |ret=>exact q.elim
   |goto t=>exact q.elim
   |panic c=>exact q.elim
   |outgrown=>exact q.elim
  |exit id=>simp only[Qx,Xx] at q
  |ret=>exact q.elim
  |goto t=>exact q.elim
  |panic c=>exact q.elim
  |outgrown=>exact q.elim
 have U:=W (.func (.yield (h.size+1)) #[] #[]) (YR (h.size+1) d (.exit j) J) S _ (Sw (h.size::Ds)::L) e1 yc sY
 have bf:=Z.eval hg
 refine⟨w.heap.size+1,[{ target:= .collected w.heap.size,args:= #[]}],(w.alloc (.deferred (some []))).alloc (.loop d),{ target:= .fn (.func f) y,args:= #[.func (.yield (w.heap.size+1)) #[] #[]]},(w.alloc (.deferred (some []))).alloc (.loop d),f,#[.func (.yield (w.heap.size+1)) #[] #[]]++y,(w.alloc (.deferred (some []))).alloc (.loop d),?_,?_,λ_ _=>LU none _,?_,λhd=>(by rw[JW] at hd;cases hd),?_⟩
 ·rw[o];exact run_enterLoop_outer _ _ _ _ _
 ·simp only[resolve,bf,rangeCall]
  simp [go_sem,Deferred.ofValue]
 ·simp [invoke,Ul av]
 ·rw[hz]
  refine RJ ((U B _ a0).mono λe w5 q=>?_)
  obtain⟨v,S5,h5,rfl,an,e5,ao⟩:=q
  have u:=Qe ao
  obtain⟨p1,p2,p3⟩:=St.rec (r':={ OD d (.exit j) r.1 with state:= .exhausted}) u
  have ap:w5.heap[h.size+1]? =some (.loop (OD d (.exit j) r.1)):=by rw[an.heap];exact p1
  refine⟨_,_,run_endLoop ap (by unfold OD;cases r.1<;>simp),?_⟩
  have H:=an.putObj (h.size+1) (.loop { OD d (.exit j) r.1 with state:= .exhausted})
  have Q:=p2.drop .head
  have aq:(OD d (.exit j) r.1).pending=if r.1 then none else some (.exit j):=rfl
  generalize ({ OD d (.exit j) r.1 with state:= .exhausted}:Loop)=rx at*
  rw[aq]
  clear aq ap p1 u ao U
  have au:Fr (k,LP (h.size::Ds)) { a with defers:=[{ target:= .collected h.size,args:= #[]}]++a.defers} m:=⟨by show _::a.defers=_;rw[Z.dfr];rfl,Z.siz,Z.at_⟩
  cases hr:r.1 with
  |true=>
   exact ay hr S5 _ h.size (e1.trans (e5.trans p3)) Q _ _ au H
  |false=>
   exact ac hr S5 _ h.size (e1.trans (e5.trans p3)) Q _ _ au H none (.inl rfl)
end
def Pu (p:Prop):HP where
 holds:=λ_ F _=>p∧∀b,¬F b
 loc:=λk _ _=>k
section
variable {S:Nat→Prop}{L:List HP}{h:BB}
def Sn {p:Prop}(a:St S (Pu p::L) h):p∧St S L h:=by
 obtain⟨F,k,_⟩:=a.get (kI ..)
 exact⟨k.1,a.drop .head⟩
def Nu {p:Prop}(a:St S L h) (k:p):St S (Pu p::L) h:=(a.add (H':=Pu p) (jB _) (λ_ _=>rfl) ⟨λ_=>False,⟨k,λ_ x=>x⟩,λ_ x=>x.elim⟩).1
def XD (a:St S L h):St S (Sw []::L) h:=(a.add (H':=Sw []) (jB _) (λ_ _=>rfl) ⟨λ_=>False,⟨List.nodup_nil,λb=>⟨λx=>x.elim,λx=>by cases x⟩,λD c=>by cases c⟩,λ_ x=>x.elim⟩).1
end
section
variable {P:Program}{ops:Array Oper}{Q:Exit→Act→World→Prop}{n:FN}{m m':SM}{rest l:List Oper}{B:World}{h:BB}{S:Nat→Prop}{L:List HP}
def UU {C σ:Type}{l:Value}{Y:Bool→σ→HP}{AR:Rj C}{c:C→σ→Option (Bool×σ)}{o:Nat→Prop}{h0:BB}{X:Operand}{xs:Array Operand}{i:Array TypeId}{vs:List Value}{d:Nat}{ty:TypeId}{j:String}{p:Array Edge}{x:C}{s:σ}{a:Bool×σ}
  (q:YC P l Y AR c o h0) (t:CE m X=some l) (k:xs.toList.mapM (CE m)=some vs) (u:c x s=some a) (v:Cm o h0 S h) (b:St S (Y true s::L) h) (w:AR S h vs x) (hd:Nat.blt d n.1=true)
  (z:a.1=true→∀S' h',Cm S h S' h'→St S' (Y true a.2::L) h'→YL P ops Q rest B h' n ((d,.bool true)::m))
  (A:a.1=false→∀S' h',Cm S h S' h'→St S' (Y false a.2::L) h'→YL P ops Q rest B h' n ((d,.bool false)::m)):YL P ops Q (⟨some d,.call ⟨.value X,xs,i⟩,ty,j,p,none⟩::rest) B h n m:=
 gZ q t k u v b w hd λS' h' e b=>by
  cases g:a.1 with
  |true=>rw[g] at b;exact z g S' h' e b
  |false=>rw[g] at b;exact A g S' h' e b
end
section
variable {P:Program}{fn:Func}{B:World}{S S':Nat→Prop}{h h':BB}{post:Value→(Nat→Prop)→BB→Prop}{a:Act}{m:SM}{w:World}{L:List HP}
def Xo {k:Nat}{Ds:List Nat}{t:List ResultVar}{vs:List Value}{v:Value}(A:Fr (k,LP Ds) a m) (C:fn.results.toList=t) (i:Wd B h' w) (u:St S' (Sw Ds::L) h') (G:ZP vs=v) (e:Cm S h S' h')
  (o:∀d j,Wd B j d→St S' L j→Cm S' h' S' j→U5 P d a t vs∧post v S' j):Rt P fn B S h post a w:=by
 obtain⟨F,n,H,I⟩:=u.2
 refine⟨Ds,A.dfr,n.1,λD J=>by rw[i.heap];exact n.2.2 D J,λd K j M Q y=>?_⟩
 have c:∀b,S' b→d.heap[b]? =h'[b]? :=λb g=>by rw[y b λp=>(H b ((n.2.1 b).2 p)).2 g,i.heap]
 have q:h'.size≤d.heap.size:=by rw[Q,i.heap];exact jB _
 have z:Cm S' h' S' d.heap:=⟨λ_ x=>x,c,q⟩
 have s:St S' L d.heap:=⟨λb g=>iY (u.1 b g) q,Sp.ext I (λ_ x=>x) (λb g=>g.elim (c b) λx=>by rw[y b λp=>x.2 ((n.2.1 b).2 p),i.heap]) λb g=>⟨iY g.1.1 q,g.1.2⟩⟩
 have l:Wd B d.heap d:=⟨rfl,K.trans i.os,j.trans i.tape,M.trans i.out⟩
 obtain⟨U,V⟩:=o d _ l s z
 exact⟨v,by rw[←G];exact OQ C U,S',_,l,e.trans z,V⟩
end
end Go.Proofs.YtibidnaedddfdaaGreat
