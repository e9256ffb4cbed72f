import Derived.Test.YtblcgjadhemlbaaGreatWCore2
import Derived.Deep.LoopGhost
import Derived.Sort.LoopGhostIn
import Derived.TacticsIn
import Derived.OrdersIn
import Derived.RangeFuncLeaves
import Derived.RangeFuncNested
namespace Go.Proofs.YtblcgjadhemlbaaGreat
set_option linter.all false
open Go.RowKit
abbrev AP:=Act→World→Prop
def fL:List (Nat×AP)→Nat→Option AP
 |[],_=>none
 |(i,v)::r,j=>cond (Nat.beq i j) (some v) (fL r j)
def Qx (ex:List (Nat×AP)) (R N:AP):Exit→Act→World→Prop
 | .normal=>N
 | .exit i=>match fL ex i with
  |some k=>k
  |none=>λ_ _=>False
 | .ret=>R
 |_=>λ_ _=>False
def FF:Option Nat→Fence
 |none=>Fence.wide
 |some l=>Fence.wide.inRound l
def Xi (o:Oper):Bool:=match o.op with| .defer _=>false|_=>true
def WE:Code→Bool
 | .skip=>true
 | .region _ ops _=>ops.toList.all Xi
 | .seq x y=>WE x&&WE y
 | .cond _ x y=>WE x&&WE y
 | .block _ c=>WE c
 | .loop c=>WE c
 | .exit _=>true
 | .ret=>true
 |_=>false
def RD (rd:Option Nat) (c:Code):Prop:=rd=none∨WE c=true
def OE (rd:Option Nat) (f:FuncId):(FF rd).fn f:=by cases rd<;>trivial
def Lo (rd:Option Nat):(FF rd).depth=none:=by cases rd<;>rfl
def RL (rd:Option Nat):(FF rd).round=rd:=by cases rd<;>rfl
def Nw (P:Program) (rd:Option Nat):Machine.fenced P (FF rd)=Machine.fenced P Fence.wide:=by cases rd<;>rfl
def cJ (rd:Option Nat) (n:Nat):(FF rd).room n:=λd h=>by rw[Lo] at h;cases h
def Wg {P:Program}{f:FuncId}{a:Array Value}{w:World}{R:Ending→World→Prop}{rd:Option Nat}{n:Nat}(h:Calls P f a w R):CallsIn (FF rd) n P f a w R:=
 ⟨OE rd f,λcs _=>let ⟨e,w',fr,r,s,x⟩:=h cs;⟨e,w',fr,r,by rw[Nw];exact comesIn_wide.2 s,x⟩⟩
def eY {P:Program}{b:String}{a:Array Value}{w:World}{R:Value→World→Prop}{rd:Option Nat}{n:Nat}(h:Rows P b a w R):RowsIn (FF rd) n P b a w R:=
 λc cs _=>let ⟨v,w',r,s⟩:=h c cs;⟨v,w',r,by rw[Nw];exact stepsIn_wide.2 s⟩
section
variable {P:Program}{ops:Array Oper}{Q:Exit→Act→World→Prop}{rd:Option Nat}
def fI {o:Oper}{a:Act}{w:World}{K:Act→World→Prop}(b:rd=none∨Xi o=true) (g:∀a w,¬Q .outgrown a w) (h:o.wp P a w K Q∨(o.asks P a w∧LetsOut Q)):o.wpIn (FF rd) 0 P a w K Q:=by
 rcases h with h|⟨_,a0,w0,h⟩
 ·refine⟨λf _=>OE rd f,?_⟩
  have i:o.semAt (FF rd).round a.eval=execOp a.eval o:=by
   rw[RL]
   cases rd with
   |none=>rfl
   |some l=>exact Oper.semAt_some l _ _ λc j=>b.elim (λb=>by cases b) λb=>by unfold Xi at b;rw[j] at b;cases b
  rw[i]
  unfold Oper.wp at h
  generalize (execOp a.eval o).run P w=r at h
  cases r with
  |ok k w'=>
   cases k<;>simp only[Oper.upon,Oper.uponIn] at h ⊢
   case value v=>exact h
   case skip=>exact h
   case defer d=>exact h
   case enter f args=>exact⟨λhd=>(by rw[Lo] at hd;cases hd),Wg (h.mono λe m n=>by cases e<;>exact n)⟩
   case row r args=>exact⟨λhd=>(by rw[Lo] at hd;cases hd),eY h⟩
  |halt x w'=>cases x<;>simp only[Oper.upon,Oper.uponIn] at h ⊢;exact h
 ·exact absurd h (g a0 w0)
def VO (c:∀a w,¬Q .outgrown a w):∀(l:List Oper) (a:Act) (w:World),(rd=none∨l.all Xi=true)→wpList P ops Q l a w→wpListIn (FF rd) 0 P ops Q l a w
 |[],_,_,_,h=>h
 |o::b,a,w,g,h=>by
  have j:rd=none∨Xi o=true:=g.imp id λh=>by simp only[List.all_cons,qT] at h;exact h.1
  have i:rd=none∨b.all Xi=true:=g.imp id λh=>by simp only[List.all_cons,qT] at h;exact h.2
  unfold wpList at h
  unfold wpListIn
  split
  ·rename_i d
   rw[qR d] at h
   exact fI j c (h.imp (Oper.wp_mono λa w k=>VO c b a w i k) id)
  ·rename_i d
   rw[qP d] at h
   exact⟨λf _=>OE rd f,VO c b _ w i h⟩
def Wp (g:∀a w,¬Q .outgrown a w) (j:rd=none∨ops.toList.all Xi=true):∀(b:Nat) (c:Array Bool) (a:Act) (w:World),wpAny P .any ops Q b c a w→wpAnyIn (FF rd) 0 P .any ops Q b c a w
 |0,_,_,_,h=>h
 |b+1,c,a,w,h=>⟨h.1,λi p=>by
  have d:=h.2 i p
  unfold wpOp at d
  unfold wpOpIn
  cases l:ops[i]? with
  |none=>simp only[l] at d ⊢;exact Wp g j b _ a w d
  |some o=>
   simp only[l] at d ⊢
   have m:rd=none∨Xi o=true:=j.imp id λh=>qV.1 h o (by have:=Array.mem_of_getElem? l;simpa using this)
   split
   ·rename_i n
    rw[qR n] at d
    exact fI m g (d.imp (Oper.wp_mono λa w k=>Wp g j b _ a w k) id)
   ·rename_i n
    rw[qP n] at d
    exact⟨λf _=>OE rd f,Wp g j b _ _ w d⟩⟩
def VD {l:List Oper}{id:Nat}{a:Act}{w:World}(hd:RD rd (.region id l.toArray false)) (b:∀a w,¬Q .outgrown a w) (h:wpList P l.toArray Q l a w):(Code.region id l.toArray false).wpIn (FF rd) 0 P Q a w:=
 wpIn_region_lit (VO b l a w (hd.imp (λx=>x) λh=>by simpa [WE] using h) h)
def NB {id:Nat}{a:Act}{w:World}(hd:RD rd (.region id ops true)) (b:∀a w,¬Q .outgrown a w) (c:P.follows .mixedOrders=true)
  (h:wpAny P .any ops Q ops.size (Array.replicate ops.size false) a { w with drawn:=w.drawn+1}):(Code.region id ops true).wpIn (FF rd) 0 P Q a w:=
 wpIn_region_any c (Wp b (hd.imp (λx=>x) λh=>by simpa [WE] using h) _ _ _ _ h)
end
def W (P:Program) (ex:List (Nat×AP)) (R:AP):List Code→AP→AP
 |[],N=>N
 |c::cs,N=>λa w=>∀rd,RD rd c→c.wpIn (FF rd) 0 P (Qx ex R (W P ex R cs N)) a w
section
variable {P:Program}{ex:List (Nat×AP)}{R N:AP}{cs:List Code}{a:Act}{w:World}
def RD.seq {rd:Option Nat}{x y:Code}(h:RD rd (.seq x y)):RD rd x∧RD rd y:=
 ⟨h.imp id λh=>by simp only[WE,qT] at h;exact h.1,h.imp id λh=>by simp only[WE,qT] at h;exact h.2⟩
def RD.cond {rd:Option Nat}{X:Operand}{x y:Code}(h:RD rd (.cond X x y)):RD rd x∧RD rd y:=
 ⟨h.imp id λh=>by simp only[WE,qT] at h;exact h.1,h.imp id λh=>by simp only[WE,qT] at h;exact h.2⟩
def RD.block {rd:Option Nat}{i:Nat}{c:Code}(h:RD rd (.block i c)):RD rd c:=h
def RD.loop {rd:Option Nat}{c:Code}(h:RD rd (.loop c)):RD rd c:=h
def L6 {ex:List (Nat×AP)}{R N:AP}:∀a w,¬(Qx ex R N) .outgrown a w:=λ_ _ h=>h
def jJ {x y:Code}(h:W P ex R (x::y::cs) N a w):W P ex R (.seq x y::cs) N a w:=by
 intro rd hd
 refine wpIn_seq (wpIn_mono (h rd hd.seq.1) λe b w' q=>?_)
 cases e with
 |normal=>exact q rd hd.seq.2
 |_=>exact q
def eN (h:W P ex R cs N a w):W P ex R (.skip::cs) N a w:=λ_ _=>wpIn_skip h
def jK (h:R a w):W P ex R (.ret::cs) N a w:=λ_ _=>wpIn_ret h
def Xs {i:Nat}{k:AP}(b:fL ex i=some k) (h:k a w):W P ex R (.exit i::cs) N a w:=by
 refine λ_ _=>wpIn_exit ?_
 simp only[Qx,b]
 exact h
def oT {n m X b}{x y:Code}(c:Fr n a m) (d:Ca m X=some (.bool b)) (g:b=true→W P ex R (x::cs) N a w) (i:b=false→W P ex R (y::cs) N a w):
  W P ex R (.cond X x y::cs) N a w:=λrd hd=>wpIn_cond_split (c.eval d) (λe=>g e rd hd.cond.1) λe=>i e rd hd.cond.2
def jL {n m X}{x y:Code}(b:Fr n a m) (c:Ca m X=some (.bool true)) (d:W P ex R (x::cs) N a w):
  W P ex R (.cond X x y::cs) N a w:=λrd hd=>wpIn_cond_true (b.eval c) (d rd hd.cond.1)
def jM {n m X}{x y:Code}(b:Fr n a m) (c:Ca m X=some (.bool false)) (d:W P ex R (y::cs) N a w):
  W P ex R (.cond X x y::cs) N a w:=λrd hd=>wpIn_cond_false (b.eval c) (d rd hd.cond.2)
def Tk {i:Nat}{c:Code}(I:AP) (g:W P ((i,I)::ex) R [c] I a w) (d:∀a w,I a w→W P ex R cs N a w):W P ex R (.block i c::cs) N a w:=by
 intro rd hd
 refine wpIn_block (wpIn_mono (g rd hd.block) λe l w' q=>?_)
 cases e with
 |exit j=>
  simp only[Exit.inBlock,Qx,fL] at q ⊢
  by_cases b:j=i
  ·subst b
   rw[qR rfl]
   have:Nat.beq j j=true:=Nat.beq_refl j
   rw[this] at q
   exact d _ _ q
  ·rw[qP b]
   have:Nat.beq i j=false:=by
    cases k:Nat.beq i j with
    |false=>rfl
    |true=>exact absurd (rA k).symm b
   rw[this] at q
   exact q
 |normal=>exact d _ _ q
 |_=>exact q
def Z1 {i:Nat}{c:Code}(h:W P ((i,W P ex R cs N)::ex) R [c] (W P ex R cs N) a w):W P ex R (.block i c::cs) N a w:=Tk _ h λ_ _ x=>x
def eO {b:AP}(h:W P ex R cs N a w) (d:∀a w,N a w→b a w):W P ex R cs b a w:=by
 induction cs generalizing a w with
 |nil=>exact d _ _ h
 |cons c cs g=>
  intro rd hd
  refine wpIn_mono (h rd hd) λe i w' q=>?_
  cases e with
  |normal=>exact g q
  |_=>exact q
def jN {c:Code}(I:AP) (b:W P ex R [c] I a w) (d:∀a w,I a w→W P ex R cs N a w):W P ex R (c::cs) N a w:=by
 intro rd hd
 refine wpIn_mono (b rd hd) λe g w' q=>?_
 cases e with
 |normal=>exact d _ _ q
 |_=>exact q
def eP {c:Code}(I:Nat→AP) (T d:Nat) (h0:I d a w) (g:∀i a w,I i a w→i≤T)
  (b:∀i a w,I i a w→W P ex R [c] (I (i+1)) a w):W P ex R (.loop c::cs) N a w:=by
 intro rd hd
 refine wpIn_loop_ghost (λk a w=>∃i,I i a w∧k=T-i+1) (T-d+1) ⟨d,h0,rfl⟩ ?_
 rintro n a w ⟨i,j,rfl⟩
 refine wpIn_mono (b i a w j rd hd.loop) λe o w' q=>?_
 cases e with
 |normal=>
  have p:=g _ _ _ j
  have m:I (i+1) o w':=q
  have s:=g _ _ _ m
  exact⟨_,by omega,i+1,m,rfl⟩
 |exit id=>exact q
 |goto l=>exact q
 |ret=>exact q
 |panic t=>exact q
 |outgrown=>exact q
end
def LZ {P:Program}{ops:Array Oper}{C:World→Prop}{K:Act→Prop}{Q:Exit→Act→World→Prop}(d:∀a w,C w→K a→Q .normal a w):
  ∀(l:List Oper) (a:Act) (w:World),C w→wpQuiet P ops C K l a→wpList P ops Q l a w
 |[],a,w,c,h=>d a w c h
 |o::b,a,w,c,h=>by
  unfold wpQuiet at h
  unfold wpList
  split
  ·rename_i g
   rw[qR g] at h
   exact .inl (Oper.wp_of_quiet c (λj w' i k=>LZ d b j w' i k) h)
  ·rename_i g
   rw[qP g] at h
   exact LZ d b _ w c h
def YS (P:Program) (l:List Oper) (draw:Bool):Prop:=draw=false∨(P.follows .mixedOrders=true∧Region.lexB .any l.toArray=true)
def UB {P:Program}{C:World→Prop}{l:List Oper}{id:Nat}{draw:Bool}{Q:Exit→Act→World→Prop}{a:Act}{w:World}{rd:Option Nat}(b:RD rd (.region id l.toArray draw)) (d:∀a w,¬Q .outgrown a w) (k:YS P l draw) (c:C w) (hd:∀w,C w→C { w with drawn:=w.drawn+1})
  (h:wpQuiet P l.toArray C (λg=>∀w',C w'→Q .normal g w') l a):(Code.region id l.toArray draw).wpIn (FF rd) 0 P Q a w:=by
 rcases k with rfl|⟨hm,hB⟩
 ·exact VD b d (LZ (λa w c i=>i w c) l a w c h)
 ·cases draw with
  |false=>exact VD b d (LZ (λa w c i=>i w c) l a w c h)
  |true=>
   simp only[Region.lexB,qT] at hB
   refine NB b d hm (wpAny_of_quiet (Q:=λg=>∀w',C w'→Q .normal g w') (λ_ w' j h=>h w' j) _ _ _ _ (hd w c) ?_)
   have:=wpAnyQ_lex (C:=C) (md:= .any) hB.1 l 0 (Array.replicate l.toArray.size false) a (by simp) (by simpa using hB.2) h
   simpa using this
def Wd.drew {B h w}(k:Wd B h w):Wd B h { w with drawn:=w.drawn+1}:=⟨k.heap,k.os,k.tape,k.out⟩
section
variable {P:Program}{ex:List (Nat×AP)}{R N:AP}{cs:List Code}{a:Act}{w:World}{B:World}{h:BM}{l:List Oper}{id:Nat}{draw:Bool}{S:Nat→Prop}{L:List HP}
def oQ (b:YS P l draw) (c:Wd B h w) (k:wpQuiet P l.toArray (Wd B h) (λd=>∀w',Wd B h w'→W P ex R cs N d w') l a):W P ex R (.region id l.toArray draw::cs) N a w:=
 λ_ hd=>UB hd L6 b c (λ_=>Wd.drew) k
def oS (i:YS P l draw) (j:Wd B h w) (g:St S L h) (k:wpQuiet P l.toArray (Cl B h) (λb=>∀w' h',Wd B h' w'→St S L h'→C9 S h S h'→W P ex R cs N b w') l a):W P ex R (.region id l.toArray draw::cs) N a w:=by
 intro rd hd
 refine UB (C:=Cl B h) hd L6 i ⟨h,j,GD.refl h⟩ (λw ⟨h',d,c⟩=>⟨h',d.drew,c⟩) ?_
 refine V8 l.length (λb=>∀w' h',Wd B h' w'→St S L h'→C9 S h S h'→W P ex R cs N b w') (by simpa using k) λb m=>?_
 simp only[List.drop_length]
 exact λw' ⟨h',d,c⟩=>m w' h' d (c.st g) (c.ext g.1)
def oR (k:wpList P l.toArray (Qx ex R (W P ex R cs N)) l a w):W P ex R (.region id l.toArray false::cs) N a w:=λ_ hd=>VD hd L6 k
end
def lB {P:Program}{ops:Array Oper}{ex:List (Nat×AP)}{R N:AP}{a:Act}{w:World}(h:N a w):wpList P ops (Qx ex R N) [] a w:=h
def OI {P:Program}{ops:Array Oper}{Q:Exit→Act→World→Prop}:∀(k:Nat) (l:List Oper) (a:Act) (w:World),
  wpList P ops (Exit.then (wpList P ops Q (l.drop k)) Q) (l.take k) a w→wpList P ops Q l a w
 |0,l,a,w,h=>by simpa [wpList,Exit.then] using h
 |k+1,[],a,w,h=>by simpa [wpList,Exit.then] using h
 |k+1,o::l,a,w,h=>by
  simp only[List.take_succ_cons,List.drop_succ_cons] at h
  unfold wpList at h ⊢
  split
  ·rename_i g
   rw[qR g] at h
   rcases h with b|⟨b,i,j,h2⟩
   ·refine .inl ?_
    unfold Oper.wp at b ⊢
    generalize (execOp a.eval o).run P w=r at b
    cases r with
    |ok p w'=>
     cases p<;>simp only[Oper.upon] at b ⊢
     case value v=>exact OI k l _ _ b
     case skip=>exact OI k l _ _ b
     case defer d=>exact OI k l _ _ b
     case enter f args=>
      refine b.mono λe m n=>?_
      cases e with
      |returned v=>exact OI k l _ _ n
      |panicked c=>exact n
      |outgrown=>obtain⟨i,j,h0⟩:=n;exact⟨i,j,h0⟩
     case row r args=>obtain b:=b;exact Rows.mono b λv m q=>OI k l _ _ q
    |halt x w'=>cases x<;>simp only[Oper.upon] at b ⊢;exact b
   ·exact .inr ⟨b,i,j,h2⟩
  ·rename_i g
   rw[qP g] at h
   exact OI k l _ _ h
def l_q {P:Program}{ops:Array Oper}{Q:Exit→Act→World→Prop}{l:List Oper}{a:Act}{w B:World}{h:BM}(k:Nat) (b:Wd B h w)
  (c:wpQuiet P ops (Wd B h) (λd=>∀w',Wd B h w'→wpList P ops Q (l.drop k) d w') (l.take k) a):wpList P ops Q l a w:=
 OI k l a w (LZ (Q:=Exit.then (wpList P ops Q (l.drop k)) Q) (λ_ w b g=>g w b) (l.take k) a w b c)
def DK (P:Program) (f:FuncId) (a:Array Value) (S:Nat→Prop) (h:BM) (post:Value→(Nat→Prop)→BM→Prop):Prop:=
 ∀B w,Wd B h w→Calls P f a w λe w'=>∃v S' h',e= .returned v∧Wd B h' w'∧C9 S h S' h'∧post v S' h'
def DK.mono {P f args S h}{post a:Value→(Nat→Prop)→BM→Prop}(k:DK P f args S h post) (c:∀v S' h',C9 S h S' h'→post v S' h'→a v S' h'):DK P f args S h a:=
 λB w d=>(k B w d).mono λ_ _ ⟨v,S',h',g,i,b,j⟩=>⟨v,S',h',g,i,b,c v S' h' b j⟩
def VW:Nat→List Value→List (Nat×Value)
 |_,[]=>[]
 |i,v::r=>(i,v)::VW (i+1) r
def WI:∀(l:List Value) (k i:Nat) (v:Value),lk (VW k l) i=some v→k≤i∧l[i-k]? =some v
 |[],k,i,v,h=>by simp [VW,lk] at h
 |u::r,k,i,v,h=>by
  simp only[VW,lk] at h
  cases a:Nat.beq k i with
  |true=>
   rw[a] at h
   have:=rA a
   subst this
   simp only[qO,sD] at h
   exact⟨qX _,by simpa using h⟩
  |false=>
   rw[a] at h
   simp only[qQ] at h
   obtain⟨c,b⟩:=WI r (k+1) i v h
   refine⟨by omega,?_⟩
   have:i-k=(i-(k+1))+1:=by omega
   rw[this];simpa using b
def Fr.args {n:Nat}{l:List Value}(h:l.length≤n):Fr (n,[]) ⟨l.toArray++Array.replicate (n-l.toArray.size) undef,[]⟩ (VW 0 l):=by
 refine⟨rfl,by simp;omega,λi v c=>?_⟩
 obtain⟨_,a⟩:=WI l 0 i v c
 have b:i<l.length:=by have:=(rB.1 a).1;omega
 simp only[Nat.sub_zero] at a
 rw[vH (by simpa using b)]
 simpa using a
def dC (a:List Nat):List Deferred:=a.map λD=>{ target:= .collected D,args:= #[]}
def Rt (P:Program) (fn:Func) (B:World) (S:Nat→Prop) (h:BM) (post:Value→(Nat→Prop)→BM→Prop):AP:=λa w=>
 ∃d:List Nat,a.defers=dC d∧d.Nodup∧(∀D,D∈d→w.heap[D]? =some (.deferred (some [])))∧
  ∀c:World,c.os=w.os→c.tape=w.tape→c.output=w.output→c.heap.size=w.heap.size→(∀b,b∉d→c.heap[b]? =w.heap[b]?)→
   ∃v,(results fn a.tmps).run P c= .ok v c∧∃S' h',Wd B h' c∧C9 S h S' h'∧post v S' h'
def R9 {w a:World}(g:a.heap.size=w.heap.size) (j:∀b,b∉([]:List Nat)→a.heap[b]? =w.heap[b]?):a.heap=w.heap:=by
 apply Array.ext g
 intro i c d
 have:=j i rT
 rw[tX c,tX d] at this
 exact qS this
def Ur {P:Program}{fn:Func}{B:World}{S:Nat→Prop}{h:BM}{post:Value→(Nat→Prop)→BM→Prop}{a:Act}{w:World}{v:Value}{S':Nat→Prop}{h':BM}(hd:a.defers=[]) (g:∀w:World,Wd B h' w→(results fn a.tmps).run P w= .ok v w) (c:Wd B h' w) (e:C9 S h S' h') (k:post v S' h'):Rt P fn B S h post a w:=
 ⟨[],hd,List.nodup_nil,λD i=>(by cases i),λd j l m n o=>by
  have p:=R9 n o
  have b:Wd B h' d:=⟨p.trans c.heap,j.trans c.os,l.trans c.tape,m.trans c.out⟩
  exact⟨v,g d b,S',h',b,e,k⟩⟩
def WJ {P:Program}{fn:Func}{c:Array Value}{R:Ending→World→Prop}:∀(d:List Nat) (w:World),d.Nodup→(∀D,D∈d→w.heap[D]? =some (.deferred (some [])))→
  (∀a:World,a.os=w.os→a.tape=w.tape→a.output=w.output→a.heap.size=w.heap.size→(∀b,b∉d→a.heap[b]? =w.heap[b]?)→∃v,(results fn c).run P a= .ok v a∧R (.returned v) a)→
  LeavesInM Fence.wide 0 P fn c R (dC d) .returning w
 |[],w,_,_,k=>by
  obtain⟨v,i,j⟩:=k w rfl rfl rfl rfl λ_ _=>rfl
  exact⟨v,i,j⟩
 |D::d,w,q,o,k=>by
  obtain⟨l,m⟩:=List.nodup_cons.1 q
  have hd:=o D (rV ..)
  have n:(w.putObj D (.deferred none)).heap.size=w.heap.size:=by simp [World.putObj]
  refine⟨by simp,.inl ⟨D,_,rfl,run_takeDeferred hd,WJ d _ m (λs g=>?_) λa i j t u x=>k a i j t (u.trans n) λb p=>?_⟩⟩
  ·rw[World.putObj_heap_other (λe=>l (by rw[←e];exact g))]
   exact o s (sE _ g)
  ·rw[x b λh=>p (sE _ h),World.putObj_heap_other (λe=>p (by rw[e];exact rV ..))]
def DK.intro {P f fn c l S h post}(n:Nat) (g:P.funcs[f]? =some fn) (j:fn.body=some c) (m:fn.ntmps=n) (o:l.length≤n)
  (k:∀B w a,Wd B h w→Fr (n,[]) a (VW 0 l)→W P [] (Rt P fn B S h post) [c] (Rt P fn B S h post) a w):DK P f l.toArray S h post:=by
 intro B w p
 subst m
 refine(callsIn_wide (n:=0)).1 (callsIn_of_wp_marks g j trivial (wpIn_mono (k B w _ p (Fr.args o) none (.inl rfl)) λe d w' q=>?_))
 have b:Rt P fn B S h post d w'→LeavesInM Fence.wide 0 P fn d.tmps (λe w'=>∃v S' h',e= .returned v∧Wd B h' w'∧C9 S h S' h'∧post v S' h') d.defers .returning w':=by
  rintro⟨s,t,u,x,y⟩
  rw[t]
  refine WJ s w' u x λz A C D F G=>?_
  obtain⟨v,H,S',h',I,J,K⟩:=y z A C D F G
  exact⟨v,H,v,S',h',rfl,I,J,K⟩
 cases e with
 |normal=>exact b q
 |ret=>exact b q
 |exit i=>simp only[Qx,fL] at q
 |goto l=>exact q.elim
 |panic c=>exact q.elim
 |outgrown=>exact q.elim
section
variable {P:Program}{fn:Func}{B:World}{S S':Nat→Prop}{h h':BM}{post:Value→(Nat→Prop)→BM→Prop}{n:FN}{a:Act}{m:List (Nat×Value)}{w:World}
def rt1 {k:Nat}{t v}(b:Fr (k,[]) a m) (c:fn.results= #[.tmp t]) (d:lk m t=some v) (g:Wd B h' w) (e:C9 S h S' h') (k:post v S' h'):Rt P fn B S h post a w:=by
 refine Ur b.dfr (λw _=>?_) g e k
 rw[results_tmp c]
 have:=b.eval (X:= .tmp t) d
 simp only[Act.eval] at this
 rw[this]
def rt0 {k:Nat}(b:Fr (k,[]) a m) (c:fn.results= #[]) (d:Wd B h' w) (e:C9 S h S' h') (k:post (.tuple #[]) S' h'):Rt P fn B S h post a w:=
 Ur b.dfr (λw _=>results_none c _ _ _) d e k
end
def We {n:FN}{a:Act}{m:List (Nat×Value)}(i:Fr n a m) {xs:Array Operand}{b:List Value}(c:xs.toList.mapM (Ca m)=some b):xs.map a.eval=b.toArray:=by
 obtain⟨l⟩:=xs
 simp only at c
 have:l.map a.eval=b:=by
  induction l generalizing b with
  |nil=>simp at c;subst c;rfl
  |cons x l j=>
   simp only[uG,uW,tN] at c
   obtain⟨y,k,o,g,d⟩:=c
   simp only[Option.pure_def,sD] at d
   subst d
   simp only[sM,i.eval k,j g]
 rw[←this];simp
def CC (P:Program) (f:FuncId):Bool:=
 match P.funcs[f]? with
 |some fn=> !(fn.name== "runtime.NumGoroutine")&&fn.body.isSome
 |none=>false
def T9 {P:Program}{n:FN}{a:Act}{m:List (Nat×Value)}{w:World}{d:Option Nat}{f:Nat}{ty:TypeId}{g:String}{p:Array Edge}{X:Operand}{xs:Array Operand}{i:Array TypeId}
  {c vs:List Value} {first cap:Array Value}
  (o:Fr n a m) (q:Ca m X=some (.func (.func f) first cap)) (j:xs.toList.mapM (Ca m)=some c) (k:first.toList++c++cap.toList=vs) (b:CC P f=true):
  (execOp a.eval ⟨d,.call ⟨.value X,xs,i⟩,ty,g,p,none⟩).run P w= .ok (.enter f vs.toArray) w:=by
 have s:first++c.toArray++cap=vs.toArray:=by
  rw[←k];apply Array.ext';simp
 unfold CC at b
 split at b
 ·rename_i fn l
  simp only[qT,rP] at b
  have t:¬fn.name= "runtime.NumGoroutine" :=by simpa using b.1
  have u:¬fn.body=none:=by intro h0;rw[h0] at b;simp at b
  simp only[execOp,resolve,o.eval q,Deferred.ofValue,We o j]
  simp [invoke,callFunc,l,t,u,s]
 ·cases b
def Yl {P:Program}{ops:Array Oper}{Q:Exit→Act→World→Prop}{n:FN}{a:Act}{m:List (Nat×Value)}{b:List Oper}{d f:Nat}{ty:TypeId}{g:String}{q:Array Edge}{X:Operand}{xs:Array Operand}{i:Array TypeId}
  {c vs:List Value} {first cap:Array Value} {S h B w} {post:Value→(Nat→Prop)→BM→Prop}
  (p:Fr n a m) (s:Ca m X=some (.func (.func f) first cap)) (j:xs.toList.mapM (Ca m)=some c) (l:first.toList++c++cap.toList=vs) (o:CC P f=true) (hd:Nat.blt d n.1=true)
  (t:Wd B h w) (u:DK P f vs.toArray S h post)
  (k:∀v a w S' h',Fr n a ((d,v)::m)→Wd B h' w→C9 S h S' h'→post v S' h'→wpList P ops Q b a w):
  wpList P ops Q (⟨some d,.call ⟨.value X,xs,i⟩,ty,g,q,none⟩::b) a w:=by
 refine wpList_plain rfl λK x=>?_
 unfold Oper.wp
 rw[T9 p s j l o]
 refine(u B w t).mono λe w' ⟨v,S',h',y,z,A,C⟩=>?_
 subst y
 exact x _ _ (k v _ w' S' h' (p.put hd v) z A C)
def fG {P:Program}{ops:Array Oper}{Q:Act→Prop}{n:FN}{a:Act}{m:List (Nat×Value)}{c:List Oper}{d f:Nat}{ty:TypeId}{i:String}{y:Array Edge}{X:Operand}{xs:Array Operand}{j:Array TypeId}
  {g vs:List Value} {first cap:Array Value} {h B} {v:Value}
  (t:Fr n a m) (z:Ca m X=some (.func (.func f) first cap)) (l:xs.toList.mapM (Ca m)=some g) (p:first.toList++g++cap.toList=vs) (q:CC P f=true) (hd:Nat.blt d n.1=true)
  (A:∀h',GD h h'→DK P f vs.toArray (λb=>b<h'.size) h' (λu _ _=>u=v))
  (k:∀a,Fr n a ((d,v)::m)→wpQuiet P ops (Cl B h) Q c a):
  wpQuiet P ops (Cl B h) Q (⟨some d,.call ⟨.value X,xs,j⟩,ty,i,y,none⟩::c) a:=by
 unfold wpQuiet
 rw[qR (by simp [Region.wanted])]
 refine⟨v,λw ⟨h',C,o⟩=>?_,k _ (t.put hd v)⟩
 unfold Oper.quietAt
 rw[T9 t z l p q]
 refine⟨rfl,(A h' o B w C).mono λJ w' ⟨u,D,s,F,G,x,H⟩=>?_⟩
 subst F;subst H
 exact⟨rfl,s,G,o.trans ⟨x.siz,λb I=>x.same b I⟩⟩
def St.all (h:BM):St (λb=>b<h.size) [] h:=⟨λ_ x=>x,trivial⟩
end Go.Proofs.YtblcgjadhemlbaaGreat
