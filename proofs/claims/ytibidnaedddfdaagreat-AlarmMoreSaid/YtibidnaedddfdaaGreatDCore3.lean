import Derived.Test.YtibidnaedddfdaaGreatDCore2
import Derived.Deep.LoopGhost
import Derived.Sort.LoopGhostIn
import Derived.TacticsIn
import Derived.OrdersIn
import Derived.RangeFuncLeaves
import Derived.RangeFuncNested
namespace Go.Proofs.YtibidnaedddfdaaGreat
set_option linter.all false
open Go.RowKit
abbrev AP:=Act→World→Prop
def Xx:List (Nat×AP)→Nat→Option AP
 |[],_=>none
 |(i,v)::r,j=>cond (Nat.beq i j) (some v) (Xx r j)
def Qx (ex:List (Nat×AP)) (R N:AP):Exit→Act→World→Prop
 | .normal=>N
 | .exit i=>match Xx ex i with
  |some k=>k
  |none=>λ_ _=>False
 | .ret=>R
 |_=>λ_ _=>False
def FF:Option Nat→Fence
 |none=>Fence.wide
 |some l=>Fence.wide.inRound l
def U8 (o:Oper):Bool:=match o.op with| .defer _=>false|_=>true
def Sy:Code→Bool
 | .skip=>true
 | .region _ ops _=>ops.toList.all U8
 | .seq x y=>Sy x&&Sy y
 | .cond _ x y=>Sy x&&Sy y
 | .block _ c=>Sy c
 | .loop c=>Sy c
 | .exit _=>true
 | .ret=>true
 |_=>false
def RD (rd:Option Nat) (c:Code):Prop:=rd=none∨Sy c=true
def LU (rd:Option Nat) (f:FuncId):(FF rd).fn f:=by cases rd<;>trivial
def JW (rd:Option Nat):(FF rd).depth=none:=by cases rd<;>rfl
def P1 (rd:Option Nat):(FF rd).round=rd:=by cases rd<;>rfl
def Md (P:Program) (rd:Option Nat):Machine.fenced P (FF rd)=Machine.fenced P Fence.wide:=by cases rd<;>rfl
def Yi (rd:Option Nat) (n:Nat):(FF rd).room n:=λd h=>by rw[JW] at h;cases h
def RJ {P:Program}{f:FuncId}{args:Array Value}{w:World}{R:Ending→World→Prop}{rd:Option Nat}{n:Nat}(h:Calls P f args w R):CallsIn (FF rd) n P f args w R:=
 ⟨LU rd f,λcs _=>let ⟨e,a,fr,r,s,x⟩:=h cs;⟨e,a,fr,r,by rw[Md];exact comesIn_wide.2 s,x⟩⟩
def ZZ {P:Program}{a:String}{args:Array Value}{w:World}{R:Value→World→Prop}{rd:Option Nat}{n:Nat}(h:Rows P a args w R):RowsIn (FF rd) n P a args w R:=
 λc cs _=>let ⟨v,b,r,s⟩:=h c cs;⟨v,b,r,by rw[Md];exact stepsIn_wide.2 s⟩
section
variable {P:Program}{ops:Array Oper}{Q:Exit→Act→World→Prop}{rd:Option Nat}
def Zk {o:Oper}{a:Act}{w:World}{K:Act→World→Prop}(b:rd=none∨U8 o=true) (g:∀a w,¬Q .outgrown a w) (h:o.wp P a w K Q∨(o.asks P a w∧LetsOut Q)):o.wpIn (FF rd) 0 P a w K Q:=by
 rcases h with h|⟨_,a0,w0,h⟩
 ·refine⟨λf _=>LU rd f,?_⟩
  have i:o.semAt (FF rd).round a.eval=execOp a.eval o:=by
   rw[P1]
   cases rd with
   |none=>rfl
   |some l=>exact Oper.semAt_some l _ _ λc j=>b.elim (λb=>by cases b) λb=>by unfold U8 at b;rw[j] at b;cases b
  rw[i]
  unfold Oper.wp at h
  generalize (execOp a.eval o).run P w=r at h
  cases r with
  |ok k m=>
   cases k<;>simp only[Oper.upon,Oper.uponIn] at h ⊢
   case value v=>exact h
   case skip=>exact h
   case defer d=>exact h
   case enter f args=>exact⟨λhd=>(by rw[JW] at hd;cases hd),RJ (h.mono λe n p=>by cases e<;>exact p)⟩
   case row r args=>exact⟨λhd=>(by rw[JW] at hd;cases hd),ZZ h⟩
  |halt x m=>cases x<;>simp only[Oper.upon,Oper.uponIn] at h ⊢;exact h
 ·exact absurd h (g a0 w0)
def TO (c:∀a w,¬Q .outgrown a w):∀(l:List Oper) (a:Act) (w:World),(rd=none∨l.all U8=true)→wpList P ops Q l a w→wpListIn (FF rd) 0 P ops Q l a w
 |[],_,_,_,h=>h
 |o::b,a,w,g,h=>by
  have j:rd=none∨U8 o=true:=g.imp id λh=>by simp only[List.all_cons,iQ] at h;exact h.1
  have i:rd=none∨b.all U8=true:=g.imp id λh=>by simp only[List.all_cons,iQ] at h;exact h.2
  unfold wpList at h
  unfold wpListIn
  split
  ·rename_i d
   rw[iR d] at h
   exact Zk j c (h.imp (Oper.wp_mono λa w k=>TO c b a w i k) id)
  ·rename_i d
   rw[iP d] at h
   exact⟨λf _=>LU rd f,TO c b _ w i h⟩
def UT (g:∀a w,¬Q .outgrown a w) (j:rd=none∨ops.toList.all U8=true):∀(b:Nat) (c:Array Bool) (a:Act) (w:World),wpAny P .any ops Q b c a w→wpAnyIn (FF rd) 0 P .any ops Q b c a w
 |0,_,_,_,h=>h
 |b+1,c,a,w,h=>⟨h.1,λi p=>by
  have d:=h.2 i p
  unfold wpOp at d
  unfold wpOpIn
  cases l:ops[i]? with
  |none=>simp only[l] at d ⊢;exact UT g j b _ a w d
  |some o=>
   simp only[l] at d ⊢
   have m:rd=none∨U8 o=true:=j.imp id λh=>iT.1 h o (by have:=Array.mem_of_getElem? l;simpa using this)
   split
   ·rename_i n
    rw[iR n] at d
    exact Zk m g (d.imp (Oper.wp_mono λa w k=>UT g j b _ a w k) id)
   ·rename_i n
    rw[iP n] at d
    exact⟨λf _=>LU rd f,UT g j b _ _ w d⟩⟩
def TI {l:List Oper}{id:Nat}{a:Act}{w:World}(hd:RD rd (.region id l.toArray false)) (b:∀a w,¬Q .outgrown a w) (h:wpList P l.toArray Q l a w):(Code.region id l.toArray false).wpIn (FF rd) 0 P Q a w:=
 wpIn_region_lit (TO b l a w (hd.imp (λx=>x) λh=>by simpa [Sy] using h) h)
def M3 {id:Nat}{a:Act}{w:World}(hd:RD rd (.region id ops true)) (b:∀a w,¬Q .outgrown a w) (c:P.follows .mixedOrders=true)
  (h:wpAny P .any ops Q ops.size (Array.replicate ops.size false) a { w with drawn:=w.drawn+1}):(Code.region id ops true).wpIn (FF rd) 0 P Q a w:=
 wpIn_region_any c (UT b (hd.imp (λx=>x) λh=>by simpa [Sy] using h) _ _ _ _ h)
end
def W (P:Program) (ex:List (Nat×AP)) (R:AP):List Code→AP→AP
 |[],N=>N
 |c::cs,N=>λa w=>∀rd,RD rd c→c.wpIn (FF rd) 0 P (Qx ex R (W P ex R cs N)) a w
section
variable {P:Program}{ex:List (Nat×AP)}{R N:AP}{cs:List Code}{a:Act}{w:World}
def RD.seq {rd:Option Nat}{x y:Code}(h:RD rd (.seq x y)):RD rd x∧RD rd y:=
 ⟨h.imp id λh=>by simp only[Sy,iQ] at h;exact h.1,h.imp id λh=>by simp only[Sy,iQ] at h;exact h.2⟩
def RD.cond {rd:Option Nat}{X:Operand}{x y:Code}(h:RD rd (.cond X x y)):RD rd x∧RD rd y:=
 ⟨h.imp id λh=>by simp only[Sy,iQ] at h;exact h.1,h.imp id λh=>by simp only[Sy,iQ] at h;exact h.2⟩
def RD.block {rd:Option Nat}{i:Nat}{c:Code}(h:RD rd (.block i c)):RD rd c:=h
def RD.loop {rd:Option Nat}{c:Code}(h:RD rd (.loop c)):RD rd c:=h
def Kb {ex:List (Nat×AP)}{R N:AP}:∀a w,¬(Qx ex R N) .outgrown a w:=λ_ _ h=>h
def cA {x y:Code}(h:W P ex R (x::y::cs) N a w):W P ex R (.seq x y::cs) N a w:=by
 intro rd hd
 refine wpIn_seq (wpIn_mono (h rd hd.seq.1) λe b c q=>?_)
 cases e with
 |normal=>exact q rd hd.seq.2
 |_=>exact q
def ZK (h:W P ex R cs N a w):W P ex R (.skip::cs) N a w:=λ_ _=>wpIn_skip h
def cB (h:R a w):W P ex R (.ret::cs) N a w:=λ_ _=>wpIn_ret h
def VG {i:Nat}{k:AP}(b:Xx ex i=some k) (h:k a w):W P ex R (.exit i::cs) N a w:=by
 refine λ_ _=>wpIn_exit ?_
 simp only[Qx,b]
 exact h
def gE {n m X b}{x y:Code}(c:Fr n a m) (d:CE m X=some (.bool b)) (g:b=true→W P ex R (x::cs) N a w) (i:b=false→W P ex R (y::cs) N a w):
  W P ex R (.cond X x y::cs) N a w:=λrd hd=>wpIn_cond_split (c.eval d) (λe=>g e rd hd.cond.1) λe=>i e rd hd.cond.2
def cC {n m X}{x y:Code}(b:Fr n a m) (c:CE m X=some (.bool true)) (d:W P ex R (x::cs) N a w):
  W P ex R (.cond X x y::cs) N a w:=λrd hd=>wpIn_cond_true (b.eval c) (d rd hd.cond.1)
def cD {n m X}{x y:Code}(b:Fr n a m) (c:CE m X=some (.bool false)) (d:W P ex R (y::cs) N a w):
  W P ex R (.cond X x y::cs) N a w:=λrd hd=>wpIn_cond_false (b.eval c) (d rd hd.cond.2)
def Rl {i:Nat}{c:Code}(I:AP) (g:W P ((i,I)::ex) R [c] I a w) (d:∀a w,I a w→W P ex R cs N a w):W P ex R (.block i c::cs) N a w:=by
 intro rd hd
 refine wpIn_block (wpIn_mono (g rd hd.block) λe l m q=>?_)
 cases e with
 |exit j=>
  simp only[Exit.inBlock,Qx,Xx] at q ⊢
  by_cases b:j=i
  ·subst b
   rw[iR rfl]
   have:Nat.beq j j=true:=Nat.beq_refl j
   rw[this] at q
   exact d _ _ q
  ·rw[iP b]
   have:Nat.beq i j=false:=by
    cases k:Nat.beq i j with
    |false=>rfl
    |true=>exact absurd (iX k).symm b
   rw[this] at q
   exact q
 |normal=>exact d _ _ q
 |_=>exact q
def Xd {i:Nat}{c:Code}(h:W P ((i,W P ex R cs N)::ex) R [c] (W P ex R cs N) a w):W P ex R (.block i c::cs) N a w:=Rl _ h λ_ _ x=>x
def ZL {b:AP}(h:W P ex R cs N a w) (d:∀a w,N a w→b a w):W P ex R cs b a w:=by
 induction cs generalizing a w with
 |nil=>exact d _ _ h
 |cons c cs g=>
  intro rd hd
  refine wpIn_mono (h rd hd) λe i j q=>?_
  cases e with
  |normal=>exact g q
  |_=>exact q
def cE {c:Code}(I:AP) (b:W P ex R [c] I a w) (d:∀a w,I a w→W P ex R cs N a w):W P ex R (c::cs) N a w:=by
 intro rd hd
 refine wpIn_mono (b rd hd) λe g i q=>?_
 cases e with
 |normal=>exact d _ _ q
 |_=>exact q
def ZM {c:Code}(I:Nat→AP) (T d:Nat) (h0:I d a w) (g:∀i a w,I i a w→i≤T)
  (b:∀i a w,I i a w→W P ex R [c] (I (i+1)) a w):W P ex R (.loop c::cs) N a w:=by
 intro rd hd
 refine wpIn_loop_ghost (λk a w=>∃i,I i a w∧k=T-i+1) (T-d+1) ⟨d,h0,rfl⟩ ?_
 rintro n a w ⟨i,j,rfl⟩
 refine wpIn_mono (b i a w j rd hd.loop) λe o p q=>?_
 cases e with
 |normal=>
  have s:=g _ _ _ j
  have m:I (i+1) o p:=q
  have t:=g _ _ _ m
  exact⟨_,by omega,i+1,m,rfl⟩
 |exit id=>exact q
 |goto l=>exact q
 |ret=>exact q
 |panic u=>exact q
 |outgrown=>exact q
end
def I7 {P:Program}{ops:Array Oper}{C:World→Prop}{K:Act→Prop}{Q:Exit→Act→World→Prop}(d:∀a w,C w→K a→Q .normal a w):
  ∀(l:List Oper) (a:Act) (w:World),C w→wpQuiet P ops C K l a→wpList P ops Q l a w
 |[],a,w,c,h=>d a w c h
 |o::b,a,w,c,h=>by
  unfold wpQuiet at h
  unfold wpList
  split
  ·rename_i g
   rw[iR g] at h
   exact .inl (Oper.wp_of_quiet c (λj k i m=>I7 d b j k i m) h)
  ·rename_i g
   rw[iP g] at h
   exact I7 d b _ w c h
def Vn (P:Program) (l:List Oper) (draw:Bool):Prop:=draw=false∨(P.follows .mixedOrders=true∧Region.lexB .any l.toArray=true)
def R6 {P:Program}{C:World→Prop}{l:List Oper}{id:Nat}{draw:Bool}{Q:Exit→Act→World→Prop}{a:Act}{w:World}{rd:Option Nat}(b:RD rd (.region id l.toArray draw)) (g:∀a w,¬Q .outgrown a w) (m:Vn P l draw) (c:C w) (hd:∀w,C w→C { w with drawn:=w.drawn+1})
  (h:wpQuiet P l.toArray C (λi=>∀d,C d→Q .normal i d) l a):(Code.region id l.toArray draw).wpIn (FF rd) 0 P Q a w:=by
 rcases m with rfl|⟨hm,hB⟩
 ·exact TI b g (I7 (λa w c j=>j w c) l a w c h)
 ·cases draw with
  |false=>exact TI b g (I7 (λa w c j=>j w c) l a w c h)
  |true=>
   simp only[Region.lexB,iQ] at hB
   refine M3 b g hm (wpAny_of_quiet (Q:=λi=>∀d,C d→Q .normal i d) (λ_ d k h=>h d k) _ _ _ _ (hd w c) ?_)
   have:=wpAnyQ_lex (C:=C) (md:= .any) hB.1 l 0 (Array.replicate l.toArray.size false) a (by simp) (by simpa using hB.2) h
   simpa using this
def Wd.drew {B h w}(k:Wd B h w):Wd B h { w with drawn:=w.drawn+1}:=⟨k.heap,k.os,k.tape,k.out⟩
section
variable {P:Program}{ex:List (Nat×AP)}{R N:AP}{cs:List Code}{a:Act}{w:World}{B:World}{h:BB}{l:List Oper}{id:Nat}{draw:Bool}{S:Nat→Prop}{L:List HP}
def gB (c:Vn P l draw) (d:Wd B h w) (k:wpQuiet P l.toArray (Wd B h) (λg=>∀b,Wd B h b→W P ex R cs N g b) l a):W P ex R (.region id l.toArray draw::cs) N a w:=
 λ_ hd=>R6 hd Kb c d (λ_=>Wd.drew) k
def gD (j:Vn P l draw) (m:Wd B h w) (i:St S L h) (k:wpQuiet P l.toArray (Cl B h) (λc=>∀b h',Wd B h' b→St S L h'→Cm S h S h'→W P ex R cs N c b) l a):W P ex R (.region id l.toArray draw::cs) N a w:=by
 intro rd hd
 refine R6 (C:=Cl B h) hd Kb j ⟨h,m,FW.refl h⟩ (λw ⟨h',g,d⟩=>⟨h',g.drew,d⟩) ?_
 refine Tw l.length (λc=>∀b h',Wd B h' b→St S L h'→Cm S h S h'→W P ex R cs N c b) (by simpa using k) λc n=>?_
 simp only[List.drop_length]
 exact λb ⟨h',g,d⟩=>n b h' g (d.st i) (d.ext i.1)
def gC (k:wpList P l.toArray (Qx ex R (W P ex R cs N)) l a w):W P ex R (.region id l.toArray false::cs) N a w:=λ_ hd=>TI hd Kb k
end
def dO {P:Program}{ops:Array Oper}{ex:List (Nat×AP)}{R N:AP}{a:Act}{w:World}(h:N a w):wpList P ops (Qx ex R N) [] a w:=h
def M5 {P:Program}{ops:Array Oper}{Q:Exit→Act→World→Prop}:∀(k:Nat) (l:List Oper) (a:Act) (w:World),
  wpList P ops (Exit.then (wpList P ops Q (l.drop k)) Q) (l.take k) a w→wpList P ops Q l a w
 |0,l,a,w,h=>by simpa [wpList,Exit.then] using h
 |k+1,[],a,w,h=>by simpa [wpList,Exit.then] using h
 |k+1,o::l,a,w,h=>by
  simp only[List.take_succ_cons,List.drop_succ_cons] at h
  unfold wpList at h ⊢
  split
  ·rename_i g
   rw[iR g] at h
   rcases h with b|⟨b,i,j,h2⟩
   ·refine .inl ?_
    unfold Oper.wp at b ⊢
    generalize (execOp a.eval o).run P w=r at b
    cases r with
    |ok p q=>
     cases p<;>simp only[Oper.upon] at b ⊢
     case value v=>exact M5 k l _ _ b
     case skip=>exact M5 k l _ _ b
     case defer d=>exact M5 k l _ _ b
     case enter f args=>
      refine b.mono λe m n=>?_
      cases e with
      |returned v=>exact M5 k l _ _ n
      |panicked c=>exact n
      |outgrown=>obtain⟨i,j,h0⟩:=n;exact⟨i,j,h0⟩
     case row r args=>obtain b:=b;exact Rows.mono b λv m s=>M5 k l _ _ s
    |halt x q=>cases x<;>simp only[Oper.upon] at b ⊢;exact b
   ·exact .inr ⟨b,i,j,h2⟩
  ·rename_i g
   rw[iP g] at h
   exact M5 k l _ _ h
def l_q {P:Program}{ops:Array Oper}{Q:Exit→Act→World→Prop}{l:List Oper}{a:Act}{w B:World}{h:BB}(k:Nat) (b:Wd B h w)
  (d:wpQuiet P ops (Wd B h) (λg=>∀c,Wd B h c→wpList P ops Q (l.drop k) g c) (l.take k) a):wpList P ops Q l a w:=
 M5 k l a w (I7 (Q:=Exit.then (wpList P ops Q (l.drop k)) Q) (λ_ w b i=>i w b) (l.take k) a w b d)
def Ct (P:Program) (f:FuncId) (args:Array Value) (S:Nat→Prop) (h:BB) (post:Value→(Nat→Prop)→BB→Prop):Prop:=
 ∀B w,Wd B h w→Calls P f args w λe a=>∃v S' h',e= .returned v∧Wd B h' a∧Cm S h S' h'∧post v S' h'
def Ct.mono {P f args S h}{post a:Value→(Nat→Prop)→BB→Prop}(k:Ct P f args S h post) (c:∀v S' h',Cm S h S' h'→post v S' h'→a v S' h'):Ct P f args S h a:=
 λB w d=>(k B w d).mono λ_ _ ⟨v,S',h',g,i,b,j⟩=>⟨v,S',h',g,i,b,c v S' h' b j⟩
def Tb:Nat→List Value→List (Nat×Value)
 |_,[]=>[]
 |i,v::r=>(i,v)::Tb (i+1) r
def T5:∀(l:List Value) (k i:Nat) (v:Value),lk (Tb k l) i=some v→k≤i∧l[i-k]? =some v
 |[],k,i,v,h=>by simp [Tb,lk] at h
 |u::r,k,i,v,h=>by
  simp only[Tb,lk] at h
  cases a:Nat.beq k i with
  |true=>
   rw[a] at h
   have:=iX a
   subst this
   simp only[iN,jU] at h
   exact⟨jB _,by simpa using h⟩
  |false=>
   rw[a] at h
   simp only[iO] at h
   obtain⟨c,b⟩:=T5 r (k+1) i v h
   refine⟨by omega,?_⟩
   have:i-k=(i-(k+1))+1:=by omega
   rw[this];simpa using b
def Fr.args {n:Nat}{l:List Value}(h:l.length≤n):Fr (n,[]) ⟨l.toArray++Array.replicate (n-l.toArray.size) undef,[]⟩ (Tb 0 l):=by
 refine⟨rfl,by simp;omega,λi v c=>?_⟩
 obtain⟨_,a⟩:=T5 l 0 i v c
 have b:i<l.length:=by have:=(jF.1 a).1;omega
 simp only[Nat.sub_zero] at a
 rw[Array.getElem?_append_left (by simpa using b)]
 simpa using a
def LP (Ds:List Nat):List Deferred:=Ds.map λD=>{ target:= .collected D,args:= #[]}
def Sw (Ds:List Nat):HP where
 holds:=λ_ F h=>Ds.Nodup∧(∀b,F b↔b∈Ds)∧∀D,D∈Ds→h[D]? =some (.deferred (some []))
 loc:=λ⟨d,a,g⟩ _ e=>⟨d,a,λD c=>(e D (.inr ((a D).2 c))).trans (g D c)⟩
def Rt (P:Program) (fn:Func) (B:World) (S:Nat→Prop) (h:BB) (post:Value→(Nat→Prop)→BB→Prop):AP:=λa w=>
 ∃Ds:List Nat,a.defers=LP Ds∧Ds.Nodup∧(∀D,D∈Ds→w.heap[D]? =some (.deferred (some [])))∧
  ∀c:World,c.os=w.os→c.tape=w.tape→c.output=w.output→c.heap.size=w.heap.size→(∀b,b∉Ds→c.heap[b]? =w.heap[b]?)→
   ∃v,(results fn a.tmps).run P c= .ok v c∧∃S' h',Wd B h' c∧Cm S h S' h'∧post v S' h'
def QS {w a:World}(g:a.heap.size=w.heap.size) (j:∀b,b∉([]:List Nat)→a.heap[b]? =w.heap[b]?):a.heap=w.heap:=by
 apply Array.ext g
 intro i c d
 have:=j i jL
 rw[lN c,lN d] at this
 exact jH this
def Sr {P:Program}{fn:Func}{B:World}{S:Nat→Prop}{h:BB}{post:Value→(Nat→Prop)→BB→Prop}{a:Act}{w:World}{v:Value}{S':Nat→Prop}{h':BB}(hd:a.defers=[]) (g:∀w:World,Wd B h' w→(results fn a.tmps).run P w= .ok v w) (c:Wd B h' w) (e:Cm S h S' h') (k:post v S' h'):Rt P fn B S h post a w:=
 ⟨[],hd,List.nodup_nil,λD i=>(by cases i),λd j l m n o=>by
  have p:=QS n o
  have b:Wd B h' d:=⟨p.trans c.heap,j.trans c.os,l.trans c.tape,m.trans c.out⟩
  exact⟨v,g d b,S',h',b,e,k⟩⟩
def T7 {P:Program}{fn:Func}{c:Array Value}{R:Ending→World→Prop}:∀(Ds:List Nat) (w:World),Ds.Nodup→(∀D,D∈Ds→w.heap[D]? =some (.deferred (some [])))→
  (∀a:World,a.os=w.os→a.tape=w.tape→a.output=w.output→a.heap.size=w.heap.size→(∀b,b∉Ds→a.heap[b]? =w.heap[b]?)→∃v,(results fn c).run P a= .ok v a∧R (.returned v) a)→
  LeavesInM Fence.wide 0 P fn c R (LP Ds) .returning w
 |[],w,_,_,k=>by
  obtain⟨v,g,i⟩:=k w rfl rfl rfl rfl λ_ _=>rfl
  exact⟨v,g,i⟩
 |D::Ds,w,p,n,k=>by
  obtain⟨j,l⟩:=List.nodup_cons.1 p
  have hd:=n D (kI ..)
  have m:(w.putObj D (.deferred none)).heap.size=w.heap.size:=by simp [World.putObj]
  refine⟨by simp,.inl ⟨D,_,rfl,run_takeDeferred hd,T7 Ds _ l (λq d=>?_) λa g i s t u=>k a g i s (t.trans m) λb o=>?_⟩⟩
  ·rw[World.putObj_heap_other (λe=>j (by rw[←e];exact d))]
   exact n q (kS _ d)
  ·rw[u b λh=>o (kS _ h),World.putObj_heap_other (λe=>o (by rw[e];exact kI ..))]
def Ct.intro {P f fn c l S h post}(n:Nat) (j:P.funcs[f]? =some fn) (m:fn.body=some c) (o:fn.ntmps=n) (p:l.length≤n)
  (k:∀B w a,Wd B h w→Fr (n,[]) a (Tb 0 l)→W P [] (Rt P fn B S h post) [c] (Rt P fn B S h post) a w):Ct P f l.toArray S h post:=by
 intro B w s
 subst o
 refine(callsIn_wide (n:=0)).1 (callsIn_of_wp_marks j m trivial (wpIn_mono (k B w _ s (Fr.args p) none (.inl rfl)) λe g b q=>?_))
 have d:Rt P fn B S h post g b→LeavesInM Fence.wide 0 P fn g.tmps (λe b=>∃v S' h',e= .returned v∧Wd B h' b∧Cm S h S' h'∧post v S' h') g.defers .returning b:=by
  rintro⟨Ds,t,u,x,y⟩
  rw[t]
  refine T7 Ds b u x λz A C D F G=>?_
  obtain⟨v,H,S',h',I,J,K⟩:=y z A C D F G
  exact⟨v,H,v,S',h',rfl,I,J,K⟩
 cases e with
 |normal=>exact d q
 |ret=>exact d q
 |exit i=>simp only[Qx,Xx] at q
 |goto l=>exact q.elim
 |panic c=>exact q.elim
 |outgrown=>exact q.elim
section
variable {P:Program}{fn:Func}{B:World}{S S':Nat→Prop}{h h':BB}{post:Value→(Nat→Prop)→BB→Prop}{n:FN}{a:Act}{m:List (Nat×Value)}{w:World}
def rt1 {k:Nat}{t v}(b:Fr (k,[]) a m) (c:fn.results= #[.tmp t]) (d:lk m t=some v) (g:Wd B h' w) (e:Cm S h S' h') (k:post v S' h'):Rt P fn B S h post a w:=by
 refine Sr b.dfr (λw _=>?_) g e k
 rw[results_tmp c]
 have:=b.eval (X:= .tmp t) d
 simp only[Act.eval] at this
 rw[this]
def rt0 {k:Nat}(b:Fr (k,[]) a m) (c:fn.results= #[]) (d:Wd B h' w) (e:Cm S h S' h') (k:post (.tuple #[]) S' h'):Rt P fn B S h post a w:=
 Sr b.dfr (λw _=>results_none c _ _ _) d e k
end
def UK {n:FN}{a:Act}{m:List (Nat×Value)}(g:Fr n a m) {xs:Array Operand}{args:List Value}(b:xs.toList.mapM (CE m)=some args):xs.map a.eval=args.toArray:=by
 obtain⟨l⟩:=xs
 simp only at b
 have:l.map a.eval=args:=by
  induction l generalizing args with
  |nil=>simp at b;subst b;rfl
  |cons x l i=>
   simp only[lT,mR,kX] at b
   obtain⟨y,j,k,d,c⟩:=b
   simp only[Option.pure_def,jU] at c
   subst c
   simp only[jZ,g.eval j,i d]
 rw[←this];simp
def Br (P:Program) (f:FuncId):Bool:=
 match P.funcs[f]? with
 |some fn=> !(fn.name== "runtime.NumGoroutine")&&fn.body.isSome
 |none=>false
def R3 {P:Program}{n:FN}{a:Act}{m:List (Nat×Value)}{w:World}{d:Option Nat}{f:Nat}{ty:TypeId}{c:String}{o:Array Edge}{X:Operand}{xs:Array Operand}{g:Array TypeId}
  {args vs:List Value} {first cap:Array Value}
  (l:Fr n a m) (p:CE m X=some (.func (.func f) first cap)) (i:xs.toList.mapM (CE m)=some args) (j:first.toList++args++cap.toList=vs) (b:Br P f=true):
  (execOp a.eval ⟨d,.call ⟨.value X,xs,g⟩,ty,c,o,none⟩).run P w= .ok (.enter f vs.toArray) w:=by
 have q:first++args.toArray++cap=vs.toArray:=by
  rw[←j];apply Array.ext';simp
 unfold Br at b
 split at b
 ·rename_i fn k
  simp only[iQ,jI] at b
  have s:¬fn.name= "runtime.NumGoroutine" :=by simpa using b.1
  have t:¬fn.body=none:=by intro h0;rw[h0] at b;simp at b
  simp only[execOp,resolve,l.eval p,Deferred.ofValue,UK l i]
  simp [invoke,callFunc,k,s,t,q]
 ·cases b
def V0 {P:Program}{ops:Array Oper}{Q:Exit→Act→World→Prop}{n:FN}{a:Act}{m:List (Nat×Value)}{b:List Oper}{d f:Nat}{ty:TypeId}{c:String}{p:Array Edge}{X:Operand}{xs:Array Operand}{g:Array TypeId}
  {args vs:List Value} {first cap:Array Value} {S h B w} {post:Value→(Nat→Prop)→BB→Prop}
  (o:Fr n a m) (q:CE m X=some (.func (.func f) first cap)) (i:xs.toList.mapM (CE m)=some args) (j:first.toList++args++cap.toList=vs) (l:Br P f=true) (hd:Nat.blt d n.1=true)
  (s:Wd B h w) (t:Ct P f vs.toArray S h post)
  (k:∀v a w S' h',Fr n a ((d,v)::m)→Wd B h' w→Cm S h S' h'→post v S' h'→wpList P ops Q b a w):
  wpList P ops Q (⟨some d,.call ⟨.value X,xs,g⟩,ty,c,p,none⟩::b) a w:=by
 refine wpList_plain rfl λK u=>?_
 unfold Oper.wp
 rw[R3 o q i j l]
 refine(t B w s).mono λe x ⟨v,S',h',y,z,A,C⟩=>?_
 subst y
 exact u _ _ (k v _ x S' h' (o.put hd v) z A C)
def Zh {P:Program}{ops:Array Oper}{Q:Act→Prop}{n:FN}{a:Act}{m:List (Nat×Value)}{c:List Oper}{d f:Nat}{ty:TypeId}{g:String}{x:Array Edge}{X:Operand}{xs:Array Operand}{i:Array TypeId}
  {args vs:List Value} {first cap:Array Value} {h B} {v:Value}
  (s:Fr n a m) (y:CE m X=some (.func (.func f) first cap)) (j:xs.toList.mapM (CE m)=some args) (l:first.toList++args++cap.toList=vs) (p:Br P f=true) (hd:Nat.blt d n.1=true)
  (z:∀h',FW h h'→Ct P f vs.toArray (λb=>b<h'.size) h' (λu _ _=>u=v))
  (k:∀a,Fr n a ((d,v)::m)→wpQuiet P ops (Cl B h) Q c a):
  wpQuiet P ops (Cl B h) Q (⟨some d,.call ⟨.value X,xs,i⟩,ty,g,x,none⟩::c) a:=by
 unfold wpQuiet
 rw[iR (by simp [Region.wanted])]
 refine⟨v,λw ⟨h',A,o⟩=>?_,k _ (s.put hd v)⟩
 unfold Oper.quietAt
 rw[R3 s y j l p]
 refine⟨rfl,(z h' o B w A).mono λI J ⟨u,C,q,D,F,t,G⟩=>?_⟩
 subst D;subst G
 exact⟨rfl,q,F,o.trans ⟨t.siz,λb H=>t.same b H⟩⟩
def St.all (h:BB):St (λb=>b<h.size) [] h:=⟨λ_ x=>x,trivial⟩
end Go.Proofs.YtibidnaedddfdaaGreat
