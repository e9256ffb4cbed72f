import Derived.Test.YtabonambpbofgaaGreatNCore2
import Derived.Deep.LoopGhost
import Derived.Sort.LoopGhostIn
import Derived.TacticsIn
import Derived.OrdersIn
import Derived.RangeFuncLeaves
import Derived.RangeFuncNested
import Derived.Great.BuildSlice
namespace Go.Proofs.YtabonambpbofgaaGreat
set_option linter.all false
open Go.RowKit
abbrev AP:=Act→World→Prop
def rH:List (Nat×AP)→Nat→Option AP
 |[],_=>none
 |(i,v)::r,j=>cond (Nat.beq i j) (some v) (rH r j)
def Qx (ex:List (Nat×AP)) (R N:AP):Exit→Act→World→Prop
 | .normal=>N
 | .exit i=>match rH ex i with
  |some k=>k
  |none=>λ_ _=>False
 | .ret=>R
 |_=>λ_ _=>False
def FF:Option Nat→Fence
 |none=>Fence.wide
 |some l=>Fence.wide.inRound l
def nR (o:Oper):Bool:=match o.op with| .defer _=>false|_=>true
def Zm:Code→Bool
 | .skip=>true
 | .region _ ops _=>ops.toList.all nR
 | .seq x y=>Zm x&&Zm y
 | .cond _ x y=>Zm x&&Zm y
 | .block _ c=>Zm c
 | .loop c=>Zm c
 | .exit _=>true
 | .ret=>true
 |_=>false
def RD (rd:Option Nat) (c:Code):Prop:=rd=none∨Zm c=true
def SG (rd:Option Nat) (f:FuncId):(FF rd).fn f:=by cases rd<;>trivial
def Tt (rd:Option Nat):(FF rd).depth=none:=by cases rd<;>rfl
def iO (rd:Option Nat):(FF rd).round=rd:=by cases rd<;>rfl
def Rx (P:Program) (rd:Option Nat):Machine.fenced P (FF rd)=Machine.fenced P Fence.wide:=by cases rd<;>rfl
def lF {P:Program}{f:FuncId}{a:Array Value}{w:World}{R:Ending→World→Prop}{rd:Option Nat}{n:Nat}(h:Calls P f a w R):CallsIn (FF rd) n P f a w R:=
 ⟨SG rd f,λcs _=>let ⟨e,w',fr,r,s,x⟩:=h cs;⟨e,w',fr,r,by rw[Rx];exact comesIn_wide.2 s,x⟩⟩
def qU {P:Program}{b:String}{a:Array Value}{w:World}{R:Value→World→Prop}{rd:Option Nat}{n:Nat}(h:Rows P b a w R):RowsIn (FF rd) n P b a w R:=
 λc cs _=>let ⟨v,w',r,s⟩:=h c cs;⟨v,w',r,by rw[Rx];exact stepsIn_wide.2 s⟩
section
variable {P:Program}{ops:Array Oper}{Q:Exit→Act→World→Prop}{rd:Option Nat}
def rE {o:Oper}{a:Act}{w:World}{K:Act→World→Prop}(b:rd=none∨nR o=true) (g:∀a w,¬Q .outgrown a w) (h:o.wp P a w K Q∨(o.asks P a w∧LetsOut Q)):o.wpIn (FF rd) 0 P a w K Q:=by
 rcases h with h|⟨_,a0,w0,h⟩
 ·refine⟨λf _=>SG rd f,?_⟩;have i:o.semAt (FF rd).round a.eval=execOp a.eval o:=by
   rw[iO];cases rd with
   |none=>rfl
   |some l=>exact Oper.semAt_some l _ _ λc j=>b.elim (λb=>by cases b) λb=>by unfold nR at b;rw[j] at b;cases b
  rw[i];unfold Oper.wp at h;generalize (execOp a.eval o).run P w=r at h
  cases r with
  |ok k w'=>
   cases k<;>simp only[Oper.upon,Oper.uponIn] at h ⊢
   case value v=>exact h
   case skip=>exact h
   case defer d=>exact h
   case enter f args=>exact⟨λhd=>(by rw[Tt] at hd;cases hd),lF (h.mono λe m n=>by cases e<;>exact n)⟩
   case row r args=>exact⟨λhd=>(by rw[Tt] at hd;cases hd),qU h⟩
  |halt x w'=>cases x<;>simp only[Oper.upon,Oper.uponIn] at h ⊢;exact h
 ·exact absurd h (g a0 w0)
def XW (c:∀a w,¬Q .outgrown a w):∀(l:List Oper) (a:Act) (w:World),(rd=none∨l.all nR=true)→wpList P ops Q l a w→wpListIn (FF rd) 0 P ops Q l a w
 |[],_,_,_,h=>h
 |o::b,a,w,g,h=>by
  have j:rd=none∨nR o=true:=g.imp id λh=>by simp only[List.all_cons,Acj] at h;exact h.1
  have i:rd=none∨b.all nR=true:=g.imp id λh=>by simp only[List.all_cons,Acj] at h;exact h.2
  unfold wpList at h;unfold wpListIn;split
  ·rename_i d;rw[Acf d] at h;exact rE j c (h.imp (Oper.wp_mono λa w k=>XW c b a w i k) id)
  ·rename_i d;rw[Ace d] at h;exact⟨λf _=>SG rd f,XW c b _ w i h⟩
def Yu (g:∀a w,¬Q .outgrown a w) (j:rd=none∨ops.toList.all nR=true):∀(b:Nat) (c:Array Bool) (a:Act) (w:World),wpAny P .any ops Q b c a w→wpAnyIn (FF rd) 0 P .any ops Q b c a w
 |0,_,_,_,h=>h
 |b+1,c,a,w,h=>⟨h.1,λi p=>by
  have d:=h.2 i p;unfold wpOp at d;unfold wpOpIn;cases l:ops[i]? with
  |none=>simp only[l] at d ⊢;exact Yu g j b _ a w d
  |some o=>
   simp only[l] at d ⊢;have m:rd=none∨nR o=true:=j.imp id λh=>Acm.1 h o (by have:=Array.mem_of_getElem? l;simpa using this);split
   ·rename_i n;rw[Acf n] at d;exact rE m g (d.imp (Oper.wp_mono λa w k=>Yu g j b _ a w k) id)
   ·rename_i n;rw[Ace n] at d;exact⟨λf _=>SG rd f,Yu g j b _ _ w d⟩⟩
def XO {l:List Oper}{id:Nat}{a:Act}{w:World}(hd:RD rd (.region id l.toArray false)) (b:∀a w,¬Q .outgrown a w) (h:wpList P l.toArray Q l a w):(Code.region id l.toArray false).wpIn (FF rd) 0 P Q a w:=
 wpIn_region_lit (XW b l a w (hd.imp (λx=>x) λh=>by simpa [Zm] using h) h)
def QR {id:Nat}{a:Act}{w:World}(hd:RD rd (.region id ops true)) (b:∀a w,¬Q .outgrown a w) (c:P.follows .mixedOrders=true)
  (h:wpAny P .any ops Q ops.size (Array.replicate ops.size false) a { w with drawn:=w.drawn+1}):(Code.region id ops true).wpIn (FF rd) 0 P Q a w:=
 wpIn_region_any c (Yu b (hd.imp (λx=>x) λh=>by simpa [Zm] using h) _ _ _ _ h)
end
def W (P:Program) (ex:List (Nat×AP)) (R:AP):List Code→AP→AP
 |[],N=>N
 |c::cs,N=>λa w=>∀rd,RD rd c→c.wpIn (FF rd) 0 P (Qx ex R (W P ex R cs N)) a w
section
variable {P:Program}{ex:List (Nat×AP)}{R N:AP}{cs:List Code}{a:Act}{w:World}
def RD.seq {rd:Option Nat}{x y:Code}(h:RD rd (.seq x y)):RD rd x∧RD rd y:=
 ⟨h.imp id λh=>by simp only[Zm,Acj] at h;exact h.1,h.imp id λh=>by simp only[Zm,Acj] at h;exact h.2⟩
def RD.cond {rd:Option Nat}{X:Operand}{x y:Code}(h:RD rd (.cond X x y)):RD rd x∧RD rd y:=
 ⟨h.imp id λh=>by simp only[Zm,Acj] at h;exact h.1,h.imp id λh=>by simp only[Zm,Acj] at h;exact h.2⟩
def RD.block {rd:Option Nat}{i:Nat}{c:Code}(h:RD rd (.block i c)):RD rd c:=h
def RD.loop {rd:Option Nat}{c:Code}(h:RD rd (.loop c)):RD rd c:=h
def Nk {ex:List (Nat×AP)}{R N:AP}:∀a w,¬(Qx ex R N) .outgrown a w:=λ_ _ h=>h
def wA {x y:Code}(h:W P ex R (x::y::cs) N a w):W P ex R (.seq x y::cs) N a w:=by
 intro rd hd;refine wpIn_seq (wpIn_mono (h rd hd.seq.1) λe b w' q=>?_);cases e with
 |normal=>exact q rd hd.seq.2
 |_=>exact q
def pL (h:W P ex R cs N a w):W P ex R (.skip::cs) N a w:=λ_ _=>wpIn_skip h
def wB (h:R a w):W P ex R (.ret::cs) N a w:=λ_ _=>wpIn_ret h
def aI {i:Nat}{k:AP}(b:rH ex i=some k) (h:k a w):W P ex R (.exit i::cs) N a w:=by
 refine λ_ _=>wpIn_exit ?_;simp only[Qx,b];exact h
def Aas {n m X b}{x y:Code}(c:Fr n a m) (d:B4 m X=some (.bool b)) (g:b=true→W P ex R (x::cs) N a w) (i:b=false→W P ex R (y::cs) N a w):
  W P ex R (.cond X x y::cs) N a w:=λrd hd=>wpIn_cond_split (c.eval d) (λe=>g e rd hd.cond.1) λe=>i e rd hd.cond.2
def wC {n m X}{x y:Code}(b:Fr n a m) (c:B4 m X=some (.bool true)) (d:W P ex R (x::cs) N a w):
  W P ex R (.cond X x y::cs) N a w:=λrd hd=>wpIn_cond_true (b.eval c) (d rd hd.cond.1)
def wD {n m X}{x y:Code}(b:Fr n a m) (c:B4 m X=some (.bool false)) (d:W P ex R (y::cs) N a w):
  W P ex R (.cond X x y::cs) N a w:=λrd hd=>wpIn_cond_false (b.eval c) (d rd hd.cond.2)
def Vw {i:Nat}{c:Code}(I:AP) (g:W P ((i,I)::ex) R [c] I a w) (d:∀a w,I a w→W P ex R cs N a w):W P ex R (.block i c::cs) N a w:=by
 intro rd hd;refine wpIn_block (wpIn_mono (g rd hd.block) λe l w' q=>?_);cases e with
 |exit j=>
  simp only[Exit.inBlock,Qx,rH] at q ⊢;by_cases b:j=i
  ·subst b;rw[Acf rfl];have:Nat.beq j j=true:=Nat.beq_refl j;rw[this] at q;exact d _ _ q
  ·rw[Ace b];have:Nat.beq i j=false:=by
    cases k:Nat.beq i j with
    |false=>rfl
    |true=>exact absurd (Aco k).symm b
   rw[this] at q;exact q
 |normal=>exact d _ _ q
 |_=>exact q
def iV {i:Nat}{c:Code}(h:W P ((i,W P ex R cs N)::ex) R [c] (W P ex R cs N) a w):W P ex R (.block i c::cs) N a w:=Vw _ h λ_ _ x=>x
def pM {b:AP}(h:W P ex R cs N a w) (d:∀a w,N a w→b a w):W P ex R cs b a w:=by
 induction cs generalizing a w with
 |nil=>exact d _ _ h
 |cons c cs g=>
  intro rd hd;refine wpIn_mono (h rd hd) λe i w' q=>?_;cases e with
  |normal=>exact g q
  |_=>exact q
def wE {c:Code}(I:AP) (b:W P ex R [c] I a w) (d:∀a w,I a w→W P ex R cs N a w):W P ex R (c::cs) N a w:=by
 intro rd hd;refine wpIn_mono (b rd hd) λe g w' q=>?_;cases e with
 |normal=>exact d _ _ q
 |_=>exact q
def pN {c:Code}(I:Nat→AP) (T d:Nat) (h0:I d a w) (g:∀i a w,I i a w→i≤T)
  (b:∀i a w,I i a w→W P ex R [c] (I (i+1)) a w):W P ex R (.loop c::cs) N a w:=by
 intro rd hd;refine wpIn_loop_ghost (λk a w=>∃i,I i a w∧k=T-i+1) (T-d+1) ⟨d,h0,rfl⟩ ?_;rintro n a w ⟨i,j,rfl⟩;refine wpIn_mono (b i a w j rd hd.loop) λe o w' q=>?_;cases e with
 |normal=>
  have p:=g _ _ _ j;have m:I (i+1) o w':=q;have s:=g _ _ _ m;exact⟨_,by omega,i+1,m,rfl⟩
 |exit id=>exact q
 |goto l=>exact q
 |ret=>exact q
 |panic t=>exact q
 |outgrown=>exact q
end
def ND {P:Program}{ops:Array Oper}{C:World→Prop}{K:Act→Prop}{Q:Exit→Act→World→Prop}(d:∀a w,C w→K a→Q .normal a w):
  ∀(l:List Oper) (a:Act) (w:World),C w→wpQuiet P ops C K l a→wpList P ops Q l a w
 |[],a,w,c,h=>d a w c h
 |o::b,a,w,c,h=>by
  unfold wpQuiet at h;unfold wpList;split
  ·rename_i g;rw[Acf g] at h;exact .inl (Oper.wp_of_quiet c (λj w' i k=>ND d b j w' i k) h)
  ·rename_i g;rw[Ace g] at h;exact ND d b _ w c h
def cT (P:Program) (l:List Oper) (draw:Bool):Prop:=draw=false∨(P.follows .mixedOrders=true∧Region.lexB .any l.toArray=true)
def WM {P:Program}{C:World→Prop}{l:List Oper}{id:Nat}{draw:Bool}{Q:Exit→Act→World→Prop}{a:Act}{w:World}{rd:Option Nat}(b:RD rd (.region id l.toArray draw)) (d:∀a w,¬Q .outgrown a w) (k:cT P l draw) (c:C w) (hd:∀w,C w→C { w with drawn:=w.drawn+1})
  (h:wpQuiet P l.toArray C (λg=>∀w',C w'→Q .normal g w') l a):(Code.region id l.toArray draw).wpIn (FF rd) 0 P Q a w:=by
 rcases k with rfl|⟨hm,hB⟩
 ·exact XO b d (ND (λa w c i=>i w c) l a w c h)
 ·cases draw with
  |false=>exact XO b d (ND (λa w c i=>i w c) l a w c h)
  |true=>
   simp only[Region.lexB,Acj] at hB;refine QR b d hm (wpAny_of_quiet (Q:=λg=>∀w',C w'→Q .normal g w') (λ_ w' j h=>h w' j) _ _ _ _ (hd w c) ?_);have:=wpAnyQ_lex (C:=C) (md:= .any) hB.1 l 0 (Array.replicate l.toArray.size false) a (by simp) (by simpa using hB.2) h;simpa using this
def Wd.drew {B h w}(k:Wd B h w):Wd B h { w with drawn:=w.drawn+1}:=⟨k.heap,k.os,k.tape,k.out⟩
section
variable {P:Program}{ex:List (Nat×AP)}{R N:AP}{cs:List Code}{a:Act}{w:World}{B:World}{h:AS}{l:List Oper}{id:Nat}{draw:Bool}{S:Nat→Prop}{L:List HP}
def Aap (b:cT P l draw) (c:Wd B h w) (k:wpQuiet P l.toArray (Wd B h) (λd=>∀w',Wd B h w'→W P ex R cs N d w') l a):W P ex R (.region id l.toArray draw::cs) N a w:=
 λ_ hd=>WM hd Nk b c (λ_=>Wd.drew) k
def Aar (i:cT P l draw) (j:Wd B h w) (g:St S L h) (k:wpQuiet P l.toArray (Cl B h) (λb=>∀w' h',Wd B h' w'→St S L h'→CJ S h S h'→W P ex R cs N b w') l a):W P ex R (.region id l.toArray draw::cs) N a w:=by
 intro rd hd;refine WM (C:=Cl B h) hd Nk i ⟨h,j,EY.refl h⟩ (λw ⟨h',d,c⟩=>⟨h',d.drew,c⟩) ?_;refine UK l.length (λb=>∀w' h',Wd B h' w'→St S L h'→CJ S h S h'→W P ex R cs N b w') (by simpa using k) λb m=>?_;simp only[List.drop_length];exact λw' ⟨h',d,c⟩=>m w' h' d (c.st g) (c.ext g.1)
def Aaq (k:wpList P l.toArray (Qx ex R (W P ex R cs N)) l a w):W P ex R (.region id l.toArray false::cs) N a w:=λ_ hd=>XO hd Nk k
end
def nU {P:Program}{ops:Array Oper}{ex:List (Nat×AP)}{R N:AP}{a:Act}{w:World}(h:N a w):wpList P ops (Qx ex R N) [] a w:=h
def QS {P:Program}{ops:Array Oper}{Q:Exit→Act→World→Prop}:∀(k:Nat) (l:List Oper) (a:Act) (w:World),
  wpList P ops (Exit.then (wpList P ops Q (l.drop k)) Q) (l.take k) a w→wpList P ops Q l a w
 |0,l,a,w,h=>by simpa [wpList,Exit.then] using h
 |k+1,[],a,w,h=>by simpa [wpList,Exit.then] using h
 |k+1,o::l,a,w,h=>by
  simp only[List.take_succ_cons,List.drop_succ_cons] at h;unfold wpList at h ⊢;split
  ·rename_i g;rw[Acf g] at h;rcases h with b|⟨b,i,j,h2⟩
   ·refine .inl ?_;unfold Oper.wp at b ⊢;generalize (execOp a.eval o).run P w=r at b
    cases r with
    |ok p w'=>
     cases p<;>simp only[Oper.upon] at b ⊢
     case value v=>exact QS k l _ _ b
     case skip=>exact QS k l _ _ b
     case defer d=>exact QS k l _ _ b
     case enter f args=>
      refine b.mono λe m n=>?_;cases e with
      |returned v=>exact QS k l _ _ n
      |panicked c=>exact n
      |outgrown=>obtain⟨i,j,h0⟩:=n;exact⟨i,j,h0⟩
     case row r args=>obtain b:=b;exact Rows.mono b λv m q=>QS k l _ _ q
    |halt x w'=>cases x<;>simp only[Oper.upon] at b ⊢;exact b
   ·exact .inr ⟨b,i,j,h2⟩
  ·rename_i g;rw[Ace g] at h;exact QS k l _ _ h
def l_q {P:Program}{ops:Array Oper}{Q:Exit→Act→World→Prop}{l:List Oper}{a:Act}{w B:World}{h:AS}(k:Nat) (b:Wd B h w)
  (c:wpQuiet P ops (Wd B h) (λd=>∀w',Wd B h w'→wpList P ops Q (l.drop k) d w') (l.take k) a):wpList P ops Q l a w:=
 QS k l a w (ND (Q:=Exit.then (wpList P ops Q (l.drop k)) Q) (λ_ w b g=>g w b) (l.take k) a w b c)
def CL (P:Program) (f:FuncId) (a:Array Value) (S:Nat→Prop) (h:AS) (post:Value→(Nat→Prop)→AS→Prop):Prop:=
 ∀B w,Wd B h w→Calls P f a w λe w'=>∃v S' h',e= .returned v∧Wd B h' w'∧CJ S h S' h'∧post v S' h'
def CL.mono {P f args S h}{post a:Value→(Nat→Prop)→AS→Prop}(k:CL P f args S h post) (c:∀v S' h',CJ S h S' h'→post v S' h'→a v S' h'):CL P f args S h a:=
 λB w d=>(k B w d).mono λ_ _ ⟨v,S',h',g,i,b,j⟩=>⟨v,S',h',g,i,b,c v S' h' b j⟩
def Xi:Nat→List Value→List (Nat×Value)
 |_,[]=>[]
 |i,v::r=>(i,v)::Xi (i+1) r
def YT:∀(l:List Value) (k i:Nat) (v:Value),lk (Xi k l) i=some v→k≤i∧l[i-k]? =some v
 |[],k,i,v,h=>by simp [Xi,lk] at h
 |u::r,k,i,v,h=>by
  simp only[Xi,lk] at h;cases a:Nat.beq k i with
  |true=>
   rw[a] at h;have:=Aco a;subst this;simp only[Acc,Adh] at h;exact⟨Acr _,by simpa using h⟩
  |false=>
   rw[a] at h;simp only[Acd] at h;obtain⟨c,b⟩:=YT r (k+1) i v h;refine⟨by omega,?_⟩;have:i-k=(i-(k+1))+1:=by omega
   rw[this];simpa using b
def Fr.args {n:Nat}{l:List Value}(h:l.length≤n):Fr (n,[]) ⟨l.toArray++Array.replicate (n-l.toArray.size) undef,[]⟩ (Xi 0 l):=by
 refine⟨rfl,by simp;omega,λi v c=>?_⟩;obtain⟨_,a⟩:=YT l 0 i v c;have b:i<l.length:=by have:=(Acq.1 a).1;omega
 simp only[Nat.sub_zero] at a;rw[Af6 (by simpa using b)];simpa using a
def nS (a:List Nat):List Deferred:=a.map λD=>{ target:= .collected D,args:= #[]}
def Rt (P:Program) (fn:Func) (B:World) (S:Nat→Prop) (h:AS) (post:Value→(Nat→Prop)→AS→Prop):AP:=λa w=>
 ∃d:List Nat,a.defers=nS d∧d.Nodup∧(∀D,D∈d→w.heap[D]? =some (.deferred (some [])))∧
  ∀c:World,c.os=w.os→c.tape=w.tape→c.output=w.output→c.heap.size=w.heap.size→(∀b,b∉d→c.heap[b]? =w.heap[b]?)→
   ∃v,(results fn a.tmps).run P c= .ok v c∧∃S' h',Wd B h' c∧CJ S h S' h'∧post v S' h'
def UV {w a:World}(g:a.heap.size=w.heap.size) (j:∀b,b∉([]:List Nat)→a.heap[b]? =w.heap[b]?):a.heap=w.heap:=by
 apply Array.ext g;intro i c d;have:=j i Ac0;rw[Aey c,Aey d] at this;exact Acg this
def gY {P:Program}{fn:Func}{B:World}{S:Nat→Prop}{h:AS}{post:Value→(Nat→Prop)→AS→Prop}{a:Act}{w:World}{v:Value}{S':Nat→Prop}{h':AS}(hd:a.defers=[]) (g:∀w:World,Wd B h' w→(results fn a.tmps).run P w= .ok v w) (c:Wd B h' w) (e:CJ S h S' h') (k:post v S' h'):Rt P fn B S h post a w:=
 ⟨[],hd,List.nodup_nil,λD i=>(by cases i),λd j l m n o=>by
  have p:=UV n o;have b:Wd B h' d:=⟨p.trans c.heap,j.trans c.os,l.trans c.tape,m.trans c.out⟩
  exact⟨v,g d b,S',h',b,e,k⟩⟩
def YV {P:Program}{fn:Func}{c:Array Value}{R:Ending→World→Prop}:∀(d:List Nat) (w:World),d.Nodup→(∀D,D∈d→w.heap[D]? =some (.deferred (some [])))→
  (∀a:World,a.os=w.os→a.tape=w.tape→a.output=w.output→a.heap.size=w.heap.size→(∀b,b∉d→a.heap[b]? =w.heap[b]?)→∃v,(results fn c).run P a= .ok v a∧R (.returned v) a)→
  LeavesInM Fence.wide 0 P fn c R (nS d) .returning w
 |[],w,_,_,k=>by
  obtain⟨v,i,j⟩:=k w rfl rfl rfl rfl λ_ _=>rfl;exact⟨v,i,j⟩
 |D::d,w,q,o,k=>by
  obtain⟨l,m⟩:=Aet.1 q;have hd:=o D (Ac4 ..);have n:(w.putObj D (.deferred none)).heap.size=w.heap.size:=by simp [World.putObj]
  refine⟨by simp,.inl ⟨D,_,rfl,run_takeDeferred hd,YV d _ m (λs g=>?_) λa i j t u x=>k a i j t (u.trans n) λb p=>?_⟩⟩
  ·rw[World.putObj_heap_other (λe=>l (by rw[←e];exact g))];exact o s (Adi _ g)
  ·rw[x b λh=>p (Adi _ h),World.putObj_heap_other (λe=>p (by rw[e];exact Ac4 ..))]
def CL.intro {P f fn c l S h post}(n:Nat) (g:P.funcs[f]? =some fn) (j:fn.body=some c) (m:fn.ntmps=n) (o:l.length≤n)
  (k:∀B w a,Wd B h w→Fr (n,[]) a (Xi 0 l)→W P [] (Rt P fn B S h post) [c] (Rt P fn B S h post) a w):CL P f l.toArray S h post:=by
 intro B w p;subst m;refine(callsIn_wide (n:=0)).1 (callsIn_of_wp_marks g j trivial (wpIn_mono (k B w _ p (Fr.args o) none (.inl rfl)) λe d w' q=>?_));have b:Rt P fn B S h post d w'→LeavesInM Fence.wide 0 P fn d.tmps (λe w'=>∃v S' h',e= .returned v∧Wd B h' w'∧CJ S h S' h'∧post v S' h') d.defers .returning w':=by
  rintro⟨s,t,u,x,y⟩;rw[t];refine YV s w' u x λz A C D F G=>?_;obtain⟨v,H,S',h',I,J,K⟩:=y z A C D F G;exact⟨v,H,v,S',h',rfl,I,J,K⟩
 cases e with
 |normal=>exact b q
 |ret=>exact b q
 |exit i=>simp only[Qx,rH] at q
 |goto l=>exact q.elim
 |panic c=>exact q.elim
 |outgrown=>exact q.elim
section
variable {P:Program}{fn:Func}{B:World}{S S':Nat→Prop}{h h':AS}{post:Value→(Nat→Prop)→AS→Prop}{n:FN}{a:Act}{m:List (Nat×Value)}{w:World}
def rt1 {k:Nat}{t v}(b:Fr (k,[]) a m) (c:fn.results= #[.tmp t]) (d:lk m t=some v) (g:Wd B h' w) (e:CJ S h S' h') (k:post v S' h'):Rt P fn B S h post a w:=by
 refine gY b.dfr (λw _=>?_) g e k;rw[results_tmp c];have:=b.eval (X:= .tmp t) d;simp only[Act.eval] at this;rw[this]
end
def Yl {n:FN}{a:Act}{m:List (Nat×Value)}(i:Fr n a m) {xs:Array Operand}{b:List Value}(c:xs.toList.mapM (B4 m)=some b):xs.map a.eval=b.toArray:=by
 obtain⟨l⟩:=xs;simp only at c;have:l.map a.eval=b:=by
  induction l generalizing b with
  |nil=>simp at c;subst c;rfl
  |cons x l j=>
   simp only[Aez,Aff,Aeh] at c;obtain⟨y,k,o,g,d⟩:=c;simp only[Afg,Adh] at d;subst d;simp only[Acz,i.eval k,j g]
 rw[←this];simp
def BJ (P:Program) (f:FuncId):Bool:=
 match P.funcs[f]? with
 |some fn=> !(fn.name== "runtime.NumGoroutine")&&fn.body.isSome
 |none=>false
def WI {P:Program}{n:FN}{a:Act}{m:List (Nat×Value)}{w:World}{d:Option Nat}{f:Nat}{ty:TypeId}{g:String}{p:Array Edge}{X:Operand}{xs:Array Operand}{i:Array TypeId}
  {c vs:List Value} {first cap:Array Value}
  (o:Fr n a m) (q:B4 m X=some (.func (.func f) first cap)) (j:xs.toList.mapM (B4 m)=some c) (k:first.toList++c++cap.toList=vs) (b:BJ P f=true):
  (execOp a.eval ⟨d,.call ⟨.value X,xs,i⟩,ty,g,p,none⟩).run P w= .ok (.enter f vs.toArray) w:=by
 have s:first++c.toArray++cap=vs.toArray:=by
  rw[←k];apply Array.ext';simp
 unfold BJ at b;split at b
 ·rename_i fn l;simp only[Acj,Ada] at b;have t:¬fn.name= "runtime.NumGoroutine" :=by simpa using b.1
  have u:¬fn.body=none:=by intro h0;rw[h0] at b;simp at b
  simp only[execOp,resolve,o.eval q,Deferred.ofValue,Yl o j];simp [invoke,callFunc,l,t,u,s]
 ·cases b
def dP {P:Program}{ops:Array Oper}{Q:Exit→Act→World→Prop}{n:FN}{a:Act}{m:List (Nat×Value)}{b:List Oper}{d f:Nat}{ty:TypeId}{g:String}{q:Array Edge}{X:Operand}{xs:Array Operand}{i:Array TypeId}
  {c vs:List Value} {first cap:Array Value} {S h B w} {post:Value→(Nat→Prop)→AS→Prop}
  (p:Fr n a m) (s:B4 m X=some (.func (.func f) first cap)) (j:xs.toList.mapM (B4 m)=some c) (l:first.toList++c++cap.toList=vs) (o:BJ P f=true) (hd:Nat.blt d n.1=true)
  (t:Wd B h w) (u:CL P f vs.toArray S h post)
  (k:∀v a w S' h',Fr n a ((d,v)::m)→Wd B h' w→CJ S h S' h'→post v S' h'→wpList P ops Q b a w):
  wpList P ops Q (⟨some d,.call ⟨.value X,xs,i⟩,ty,g,q,none⟩::b) a w:=by
 refine wpList_plain rfl λK x=>?_;unfold Oper.wp;rw[WI p s j l o];refine(u B w t).mono λe w' ⟨v,S',h',y,z,A,C⟩=>?_;subst y;exact x _ _ (k v _ w' S' h' (p.put hd v) z A C)
def rB {P:Program}{ops:Array Oper}{Q:Act→Prop}{n:FN}{a:Act}{m:List (Nat×Value)}{c:List Oper}{d f:Nat}{ty:TypeId}{i:String}{y:Array Edge}{X:Operand}{xs:Array Operand}{j:Array TypeId}
  {g vs:List Value} {first cap:Array Value} {h B} {v:Value}
  (t:Fr n a m) (z:B4 m X=some (.func (.func f) first cap)) (l:xs.toList.mapM (B4 m)=some g) (p:first.toList++g++cap.toList=vs) (q:BJ P f=true) (hd:Nat.blt d n.1=true)
  (A:∀h',EY h h'→CL P f vs.toArray (λb=>b<h'.size) h' (λu _ _=>u=v))
  (k:∀a,Fr n a ((d,v)::m)→wpQuiet P ops (Cl B h) Q c a):
  wpQuiet P ops (Cl B h) Q (⟨some d,.call ⟨.value X,xs,j⟩,ty,i,y,none⟩::c) a:=by
 unfold wpQuiet;rw[Acf (by simp [Region.wanted])];refine⟨v,λw ⟨h',C,o⟩=>?_,k _ (t.put hd v)⟩;unfold Oper.quietAt;rw[WI t z l p q];refine⟨rfl,(A h' o B w C).mono λJ w' ⟨u,D,s,F,G,x,H⟩=>?_⟩;subst F;subst H;exact⟨rfl,s,G,o.trans ⟨x.siz,λb I=>x.same b I⟩⟩
def St.all (h:AS):St (λb=>b<h.size) [] h:=⟨λ_ x=>x,trivial⟩
def FM (P:Program) (t:TypeId):Option (List Value):=((P.info? t).bind (·.zero)).map (·.cells.toList)
def Bx (b:Nat) (T:TypeId) (cs:List Value):HP where
 holds:=λ_ F h=>(∀c,F c↔c=b)∧h[b]? =some (.cells cs.toArray T (0,0))
 loc:=λ⟨a,d⟩ _ e=>⟨a,(e _ (.inr ((a _).2 rfl))).trans d⟩
def Bx.cell {b T cs S F h}(k:(Bx b T cs).holds S F h) (j:Nat):Jm h ⟨b,j,none⟩=cs[j]? :=by simp [Jm,k.2]
def If (h:AS) (o:Obj) (b:Nat) (a:b<h.size):(h.push o)[b]? =h[b]? :=by rw[Array.getElem?_push,Ace (by omega)]
def MR (h:AS) (o:Obj):(h.push o)[h.size]? =some o:=by simp
def Wd.alloc {B h w}(k:Wd B h w) (o:Obj):Wd B (h.push o) (w.alloc o):=⟨by show(w.heap.push o)=_;rw[k.heap],k.os,k.tape,k.out⟩
def St.push {S L h}(c:St S L h) (T:TypeId) (cs:List Value):St S (Bx h.size T cs::L) (h.push (.cells cs.toArray T))∧CJ S h S (h.push (.cells cs.toArray T)):=
 c.add (by simp) (λb a=>If _ _ _ a) ⟨λb=>b=h.size,⟨λ_=>Iff.rfl,MR _ _⟩,λb a=>by subst a;simp⟩
section
variable {P:Program}{ops:Array Oper}{Q:Exit→Act→World→Prop}{n:FN}{a:Act}{m:List (Nat×Value)}{rest:List Oper}
variable {d:Nat}{ty:TypeId}{pos:String}{af:Array Edge}{X:Operand}{B w:World}{h:AS}{S:Nat→Prop}{L:List HP}
def nV {T:TypeId}{v:Value}{cs:List Value}(g:Fr n a m) (j:B4 m X=some v) (l:v.cells=cs.toArray) (hd:Nat.blt d n.1=true) (i:Wd B h w) (o:St S L h)
  (k:∀b a w h',Fr n a ((d,.pointer (some ⟨b,0,none⟩))::m)→Wd B h' w→St S (Bx b T cs::L) h'→CJ S h S h'→wpList P ops Q rest a w):
  wpList P ops Q (⟨some d,.box T X,ty,pos,af,none⟩::rest) a w:=by
 refine wpList_plain rfl λK p=>?_;unfold Oper.wp;have c:(execOp a.eval ⟨some d,.box T X,ty,pos,af,none⟩).run P w= .ok (.value (.pointer (some ⟨w.heap.size,0,none⟩))) (w.alloc (.cells cs.toArray T)):=by
  simp [execOp,g.eval j,Instr.box,newVar,newRow,l]
 rw[c];obtain⟨q,s⟩:=o.push T cs;exact p _ _ (k _ _ _ _ (g.put hd _) (i.alloc _) (by rw[i.heap];exact q) s)
def rI {T:TypeId}{v:Value}{α}{r:A5 α}{x:α}(y:Fr n a m) (z:B4 m X=some v) (A:Rd S h r v x) (C:r.ag=false→r.sz=1) (hd:Nat.blt d n.1=true) (D:Wd B h w) (G:St S L h)
  (k:∀p a w S' h',Fr n a ((d,p)::m)→Wd B h' w→St S' L h'→CJ S h S' h'→Pt S' h' r p x→wpList P ops Q rest a w):
  wpList P ops Q (⟨some d,.box T X,ty,pos,af,none⟩::rest) a w:=by
 obtain⟨cs,H,g⟩:=A;have I:v.cells=cs.toArray:=by
  subst H;unfold A5.val;cases i:r.ag with
  |true=>rfl
  |false=>
   have t:=r.len g;rw[C i] at t
   match cs,t,g with
   |[c],_,g=>
    have J:=r.one g c (by simp);cases c<;>first|rfl|(simp [Value.oneCell'] at J)
 refine nV y z I hd D G λb a w h' l o q e=>?_;obtain⟨F,u,M,K,s⟩:=q.pub .head;refine k _ a w _ h' l o K (e.trans s) ⟨cs,⟨⟨b,0,none⟩,rfl,rfl,.inr ((u.1 _).2 rfl),λj U=>?_⟩,r.mono (r.mono g e.sub e.same) s.sub s.same⟩;simp only[Adj];exact Bx.cell u j
def Aa8 {T:TypeId}{cs:List Value}(o:Fr n a m) (c:FM P T=some cs) (hd:Nat.blt d n.1=true) (l:Wd B h w) (p:St S L h)
  (k:∀b a w h',Fr n a ((d,.pointer (some ⟨b,0,none⟩))::m)→Wd B h' w→St S (Bx b T cs::L) h'→CJ S h S h'→wpList P ops Q rest a w):
  wpList P ops Q (⟨some d,.alloc T,ty,pos,af,none⟩::rest) a w:=by
 refine wpList_plain rfl λK q=>?_;unfold Oper.wp;unfold FM at c;simp only[Adt,Aeh] at c;obtain⟨z,⟨i,s,c⟩,j⟩:=c;have t:z.cells=cs.toArray:=by rw[←j]
 have g:(execOp a.eval ⟨some d,.alloc T,ty,pos,af,none⟩).run P w= .ok (.value (.pointer (some ⟨w.heap.size,0,none⟩))) (w.alloc (.cells cs.toArray T)):=by
  simp [execOp,Instr.alloc,newVar,newRow,zeroValue,typeInfo,s,c,t]
 rw[g];obtain⟨u,v⟩:=p.push T cs;exact q _ _ (k _ _ _ _ (o.put hd _) (l.alloc _) (by rw[l.heap];exact u) v)
def H7 (cs:List Value) (o:Nat) (vs:List Value):List Value:=cs.take o++vs++cs.drop (o+vs.length)
def Qs (w:World) (g:Nat) (cur c':Array Value) (T:TypeId) (a:w.heap[g]? =some (.cells cur T (0,0))):
  ∃h',(w.setRow g c').heap=h'∧h'.size=w.heap.size∧h'[g]? =some (.cells c' T (0,0))∧∀b,b≠g→h'[b]? =w.heap[b]? :=by
 refine⟨_,rfl,?_,setRow_heap w g cur _ T _ a,λb c=>setRow_other w g b _ c⟩;simp [World.setRow]
def Aa5 {T d:TypeId}{Y:Operand}{b o:Nat}{v:Value}{cs vs cs':List Value}{A:List HP}{sz:Nat}{ag:Bool}(t:Fr n a m) (I:B4 m X=some (.pointer (some ⟨b,o,none⟩))) (J:B4 m Y=some v) (U:v.cells=vs.toArray) (V:∀u∈vs,u.oneCell'=true)
  (W:Kh P T sz ag=true) (x:vs.length=sz) (g:Nat.ble (o+sz) cs.length=true) (Z:H7 cs o vs=cs') (j:Wd B h w) (C:St S L h) (r:Mx L (Bx b d cs) (Bx b d cs') A)
  (k:∀a w h',Fr n a m→Wd B h' w→St S A h'→CJ S h S h'→wpList P ops Q rest a w):
  wpList P ops Q (⟨none,.store T X Y,ty,pos,af,none⟩::rest) a w:=by
 refine wpList_plain rfl λK hK=>?_;unfold Oper.wp;obtain⟨M,p,_⟩:=r.pick;obtain⟨F,g1,g2,_⟩:=Sp.pick p C.2;have D:w.heap[b]? =some (.cells cs.toArray d (0,0)):=by rw[j.heap];exact g1.2
 obtain⟨i,dd,hi,hd,y,aa⟩:=Qm W;have l:=run_storeCells_at P b o d vs 0 cs.toArray w D (by simp;have:=Afh g;omega) V;have q:(List.take (o+0) cs.toArray.toList++vs++List.drop (o+0+vs.length) cs.toArray.toList)=cs':=by rw[←Z];simp [H7]
 rw[q] at l;have s:(execOp a.eval ⟨none,.store T X Y,ty,pos,af,none⟩).run P w= .ok .skip (w.setRow b cs'.toArray):=by
  simp [execOp,t.eval I,t.eval J,Instr.storeAt,Instr.sureAddr,storeVar,U,Rf hi,y,x,l]
 rw[s];obtain⟨h',e1,e2,e3,G⟩:=Qs w b cs.toArray cs'.toArray d D;rw[j.heap] at e2 G;obtain⟨u1,u2⟩:=C.upd (h':=h') r (by omega) λF H k2=>⟨F,⟨H.1,e3⟩,λc z=> .inl z,λc _ z=>G c λe=>z ((H.1 c).2 e)⟩
 exact hK _ _ (k _ _ h' t ⟨e1,j.os,j.tape,j.out⟩ u1 u2)
end
def Zt (vs:List Value):∀(cs:List Value) (o k:Nat),o+k+vs.length≤cs.length→
  (vs.zipIdx k).foldl (λcs (p:Value×Nat)=>cs.set (o+p.2) p.1) cs=cs.take (o+k)++vs++cs.drop (o+k+vs.length):=by
 induction vs with
 |nil=>intro cs o k h;simp
 |cons v vs b=>
  intro cs o k h;simp only[Aei] at h;simp only[List.zipIdx_cons,List.foldl_cons];rw[b (cs.set (o+k) v) o (k+1) (by simp;omega)];have a:o+k<cs.length:=by omega
  have c:o+(k+1)=(o+k)+1:=by omega
  have d:o+k+1+vs.length=o+k+(vs.length+1):=by omega
  rw[c,d,List.drop_set_of_lt (by omega),Aei,Adx (by simpa using a),List.getElem_set_self,List.take_set_of_le (by omega)];simp
def TX (f:Nat→Nat):∀(l:List (Value×Nat)) (cs:List Value),
  l.foldl (λ(cs:Array Value) (p:Value×Nat)=>cs.setIfInBounds (f p.2) p.1) cs.toArray=(l.foldl (λcs (p:Value×Nat)=>cs.set (f p.2) p.1) cs).toArray
 |[],cs=>rfl
 |p::l,cs=>by
  simp only[List.foldl_cons];rw[List.setIfInBounds_toArray,TX f l]
def Mr (a:List (Nat×Nat)):List Value→List (Nat×Value)→Option (List Value)
 |cs,[]=>some cs
 |cs,(i,v)::r=>match a[i]? with
  |none=>none
  |some (off,sz)=>cond (Nat.beq v.cells.toList.length sz&&Nat.ble (off+sz) cs.length) (Mr a (H7 cs off v.cells.toList) r) none
def OI (a:List (Nat×Nat)):∀(pv:List (Nat×Value)) (cs cs':List Value),Mr a cs pv=some cs'→Instr.fill (a.toArray[·]?) cs.toArray pv=some cs'.toArray
 |[],cs,cs',h=>by simp [Mr] at h;subst h;rfl
 |(i,v)::r,cs,cs',h=>by
  simp only[Mr] at h;split at h
  ·cases h
  ·rename_i off sz g;cases b:(Nat.beq v.cells.toList.length sz&&Nat.ble (off+sz) cs.length) with
   |false=>rw[b] at h;cases h
   |true=>
    rw[b] at h;simp only[Acc] at h;simp only[Acj] at b;have j:v.cells.size=sz:=by simpa using Aco b.1
    have l:=Afh b.2;have k:=OI a r _ cs' h;have d:a.toArray[i]? =some (off,sz):=by simpa using g
    simp only[Instr.fill,d];rw[Ace (by simp [j];omega)];have c:v.cells.zipIdx.foldl (λ(cs:Array Value) (p:Value×Nat)=>cs.setIfInBounds (off+p.2) p.1) cs.toArray=(H7 cs off v.cells.toList).toArray:=by
     rw[←Array.foldl_toList,Array.toList_zipIdx,TX (off+ ·),Zt _ _ _ _ (by simp;omega)];simp [H7]
    exact(Ach (λx=>Instr.fill (a.toArray[·]?) x r) c).trans k
def Sz (P:Program) (T:TypeId):Option (List (Nat×Nat)×List Value):=
 match P.underlying T,FM P T with
 |some (.struct a),some z=>(a.toList.mapM (λf=>(P.info? f.type).map λi=>(f.offset,i.size))).map λb=>(b,z)
 |_,_=>none
def Wt {P:Program}{T:TypeId}{pl z pv cs}(h:Sz P T=some (pl,z)) (g:Mr pl z pv=some cs):P.built T pv=some cs.toArray:=by
 unfold Sz at h;split at h
 ·rename_i n j k a;simp only[Adt,Ae0] at h;obtain⟨b,l,rfl,rfl⟩:=h;unfold FM at a;simp only[Adt,Aeh] at a;obtain⟨o,⟨i,m,c⟩,d⟩:=a;simp only[Program.built,m,k,c,l];have:=OI b pv j cs g;rw[←d] at this;simpa using this
 ·cases h
def NG:Value→Nat
 | .int _ _=>1| .bool _=>2| .string _=>3|_=>0
def Vs:Value→Value→Bool
 | .int _ a,.int _ b=>decide (a=b)
 | .bool a,.bool b=>a==b
 | .string a,.string b=>a==b
 |_,_=>false
def RE:List Value→List Value→Bool
 |[],_=>true
 |_::_,[]=>true
 |a::r,b::s=>Vs a b&&RE r s
section
variable {P:Program}{ops:Array Oper}{C:World→Prop}{Q:Act→Prop}{n:FN}{a:Act}{m:List (Nat×Value)}{rest:List Oper}
variable {d:Nat}{ty:TypeId}{pos:String}{af:Array Edge}{X Y:Operand}
def Z8 (m:List (Nat×Value)) (p:Nat×Operand):Option (Nat×Value):=(B4 m p.2).map λv=>(p.1,v)
def xG {T:TypeId}{b:Array (Nat×Operand)}{pl z pv cs}(o:Fr n a m) (s:Sz P T=some (pl,z)) (c:b.toList.mapM (Z8 m)=some pv) (q:Mr pl z pv=some cs) (hd:Nat.blt d n.1=true)
  (k:∀a,Fr n a ((d,.agg cs.toArray)::m)→wpQuiet P ops C Q rest a):wpQuiet P ops C Q (⟨some d,.build T b,ty,pos,af,none⟩::rest) a:=by
 refine GI o hd (λw _=>?_) k;have i:(b.map λ(p:Nat×Operand)=>(p.1,a.eval p.2)).toList=pv:=by
  obtain⟨l⟩:=b;simp only at c;simp only[List.map_toArray];clear q k
  induction l generalizing pv with
  |nil=>simp at c;subst c;rfl
  |cons x l t=>
   simp only[Aez,Aff,Aeh,Z8,Adt] at c;obtain⟨y,⟨v,u,rfl⟩,A,j,g⟩:=c;simp only[Afg,Adh] at g;subst g;simp only[Acz,o.eval u,t j]
 have:=run_build (P:=P) w T (b.map λ(p:Nat×Operand)=>(p.1,a.eval p.2)) cs.toArray (by rw[i];exact Wt s q);simp only[execOp,Sem.run_bind,this];rfl
def eR (P:Program) (T:TypeId):Option (List Nat):=
 if P.stoodInHeld T||P.eqGuardType P.depth T then none else
 match P.underlying T with
 |some (.struct a)=>a.toList.zipIdx.mapM λ(f,i)=>
  if f.name== "_" || !Nat.beq f.offset i then none else
  match P.underlying f.type with
  |some (.int _)=>some 1
  |some .bool=>some 2
  |some .string=>some 3
  |_=>none
 |_=>none
def Qv {w:World}:∀(C:List Field) (ks:List Nat) (i d:Nat) (xs c:List Value),
  (C.zipIdx i).mapM (λ(p:Field×Nat)=>if p.1.name== "_" || !Nat.beq p.1.offset p.2 then none else
   match P.underlying p.1.type with
   |some (.int _)=>some 1
   |some .bool=>some 2
   |some .string=>some 3
   |_=>none)=some ks→(xs.drop i).map NG=ks→(c.drop i).map NG=ks→(∀(j:Nat) (F:IntKind) (n1:Int) (Z:IntKind) (n2:Int),xs[j]? =some (Value.int F n1)→c[j]? =some (Value.int Z n2)→F=Z)→
  (Op.eqFields (d+1) xs.toArray c.toArray C).run P w= .ok (RE (xs.drop i) (c.drop i)) w
 |[],ks,i,d,xs,c,h,l,m,G=>by
  simp at h;subst h;have h1:xs.drop i=[]:=by simpa using l
  rw[h1];rfl
 |f::C,ks,i,d,xs,c,h,l,m,G=>by
  simp only[List.zipIdx_cons,Aez,Aff,Aeh] at h;obtain⟨F,a,H,t,u⟩:=h;simp only[Afg,Adh] at u;subst u;split at a
  ·cases a
  ·rename_i g;simp only[Ac5,not_or,Bool.not_eq_true,Ada,Bool.not_eq_false] at g;obtain⟨I,J⟩:=g;have v:=Aco J;have K:f.name≠ "_" :=by simpa using I
   cases n:xs.drop i with
   |nil=>rw[n] at l;simp at l
   |cons x xr=>
   cases o:c.drop i with
   |nil=>rw[o] at m;simp at m
   |cons y yr=>
   rw[n] at l;rw[o] at m;simp only[Acz,List.cons.injEq] at l m;have q:xs[i]? =some x:=by have:=Ach (·[0]?) n;simpa using this
   have s:c[i]? =some y:=by have:=Ach (·[0]?) o;simpa using this
   have A:xs.drop (i+1)=xr:=by have:=Ach List.tail n;simpa [List.tail_drop] using this
   have B:c.drop (i+1)=yr:=by have:=Ach List.tail o;simpa [List.tail_drop] using this
   have D:=Qv (w:=w) C H (i+1) d xs c t (by rw[A];exact l.2) (by rw[B];exact m.2) G;rw[A,B] at D;have b:∀M,P.underlying f.type=some M→lK M=false→∀(Q:List Value) z,Q[i]? =some z→(part f.type Q.toArray f.offset).run P w= .ok z w:=by
    intro M U b Q z hz;simp [part,UJ U,b,v,hz]
   simp only[Op.eqFields,Acf K,Sem.run_bind,RE];split at a
   ·rename_i kk k;simp only[Adh] at a;subst a;rw[b _ k rfl xs x q];simp only[Result.andThen_ok];rw[b _ k rfl c y s];simp only[Result.andThen_ok];cases x<;>simp [NG] at l;cases y<;>simp [NG] at m;rename_i ka V kb W;have:=G i ka V kb W q s;subst this;rw[run_equalIn_int w d f.type ka kk V W k];simp only[Result.andThen_ok,Vs,Sem.run_ite,Sem.run_pure];rw[Po];cases decide (V=W)<;>simp [D]
   ·rename_i k;simp only[Adh] at a;subst a;rw[b _ k rfl xs x q];simp only[Result.andThen_ok];rw[b _ k rfl c y s];simp only[Result.andThen_ok];cases x<;>simp [NG] at l;cases y<;>simp [NG] at m;rw[run_equalIn_bool' w d f.type _ _ k];simp only[Result.andThen_ok,Vs,Sem.run_ite,Sem.run_pure];rename_i X Y;cases (X==Y)<;>simp [D]
   ·rename_i k;simp only[Adh] at a;subst a;rw[b _ k rfl xs x q];simp only[Result.andThen_ok];rw[b _ k rfl c y s];simp only[Result.andThen_ok];cases x<;>simp [NG] at l;cases y<;>simp [NG] at m;rw[run_equalIn_string w d f.type _ _ k];simp only[Result.andThen_ok,Vs,Sem.run_ite,Sem.run_pure];rename_i X Y;rw[beq_toListBytes];cases (X.toList==Y.toList)<;>simp [D]
   ·cases a
def Qu:List Value→List Value→Bool
 | .int k _::r,.int l _::s=>decide (k=l)&&Qu r s
 |_::r,_::s=>Qu r s
 |_,_=>true
def TF:∀(xs p:List Value),Qu xs p=true→∀(j:Nat) (c:IntKind) (m:Int) (d:IntKind) (n:Int),xs[j]? =some (Value.int c m)→p[j]? =some (Value.int d n)→c=d
 |[],_,_,j,_,_,_,_,h,_=>by simp at h
 |_::_,[],_,j,_,_,_,_,_,h=>by simp at h
 |x::r,y::s,h,0,c,m,d,n,g,i=>by
  simp only[Aem,Adh] at g i;subst g;subst i;simp only[Qu,Acj,Ac1] at h;exact h.1
 |x::r,y::s,h,j+1,c,m,d,n,g,i=>by
  simp only[Aej] at g i;refine TF r s ?_ j c m d n g i;unfold Qu at h;split at h
  ·rename_i k l;simp only[Acj] at h;injection k with k a;injection l with l b
   subst a;subst b;exact h.2
  ·rename_i k l;injection k with k a;injection l with l b
   subst a;subst b;exact h
  ·rename_i q o;exact absurd rfl (o _ _ _ _ rfl)
def Wc {T:TypeId}{ks:List Nat}{xs a:List Value}{w:World}(h:eR P T=some ks) (j:xs.map NG=ks) (k:a.map NG=ks) (l:Qu xs a=true):
  (Op.equalIn 10000 T (.agg xs.toArray) (.agg a.toArray)).run P w= .ok (RE xs a) w∧∀(c:BinOp) (x y:Operand),(eqGuard c T x y (.agg xs.toArray) (.agg a.toArray)).run P w= .ok () w:=by
 unfold eR at h;split at h
 ·cases h
 ·rename_i d;simp only[Ac5,not_or,Bool.not_eq_true] at d;split at h
  ·rename_i g i;refine⟨?_,λc x y=>run_eqGuard_agg w c T x y _ _ d.2⟩;have b:P.fieldsOf T=g:=by simp [Program.fieldsOf,i]
   have:=run_equalIn_struct (P:=P) w 9999 T xs.toArray a.toArray (by rw[b];exact i) d.1;rw[this,b];exact Qv g.toList ks 0 9998 xs a h (by simpa using j) (by simpa using k) (TF xs a l)
  ·cases h
def wO {T t2:TypeId}{ks xs ys}(b:Fr n a m) (i:B4 m X=some (.agg xs)) (j:B4 m Y=some (.agg ys)) (l:eR P T=some ks) (o:xs.toList.map NG=ks) (p:ys.toList.map NG=ks) (q:Qu xs.toList ys.toList=true) (hd:Nat.blt d n.1=true)
  (k:∀a,Fr n a ((d,.bool (!RE xs.toList ys.toList))::m)→wpQuiet P ops C Q rest a):wpQuiet P ops C Q (⟨some d,.binOp .neq T X Y t2,ty,pos,af,none⟩::rest) a:=
 GI b hd (λw _=>by
  obtain⟨c,g⟩:=Wc (w:=w) l o p q;simp only[Array.toArray_toList] at c g;simp [execOp,b.eval i,b.eval j,g,run_neq_struct,c]) k
def wY {S:Nat→Prop}{L:List HP}{h:AS}{t T b o sz:Nat}{ag:Bool}{cs vs:List Value}(q:CK C h) (s:St S L h) (l:Fr n a m) (u:B4 m X=some (.pointer (some ⟨b,o,none⟩))) (v:Bx b T cs∈L) (x:(cs.drop o).take sz=vs) (y:Nat.beq vs.length sz=true) (z:Kh P t sz ag=true) (A:(ag||Nat.beq sz 1)=true) (hd:Nat.blt d n.1=true)
  (k:∀a,Fr n a ((d,if ag then .agg vs.toArray else vs.headD undef)::m)→wpQuiet P ops C Q rest a):wpQuiet P ops C Q (⟨some d,.load t X,ty,pos,af,none⟩::rest) a:=by
 refine GI l hd (λw B=>?_) k;obtain⟨F,c,i⟩:=s.get v;have D:(Bx b T cs).holds S F w.heap:=⟨c.1,(q w B b (i b ((c.1 b).2 rfl)).1).trans c.2⟩
 have g:=Aco y;have:=NC (P:=P) (w:=w) (S:=λ_=>True) (p:= .pointer (some ⟨b,o,none⟩)) (cs:=vs) (sz:=sz) (ag:=ag) (t:=t) ⟨⟨b,o,none⟩,rfl,rfl,trivial,λj G=>by
  rw[Bx.cell D,←x,Ad3 (by omega),Aes]⟩ g z (λe=>by subst e;simpa using A)
 simp [execOp,l.eval u,this]
end
end Go.Proofs.YtabonambpbofgaaGreat
