import Derived.Test.YtedgiljmffngoaaGreatFCore2
import Derived.Deep.LoopGhost
import Derived.Sort.LoopGhostIn
import Derived.TacticsIn
import Derived.OrdersIn
import Derived.RangeFuncLeaves
import Derived.RangeFuncNested
namespace Go.Proofs.YtedgiljmffngoaaGreat
set_option linter.all false
open Go.RowKit
abbrev AP:=Act→World→Prop
def Yq:List (Nat×AP)→Nat→Option AP
 |[],_=>none
 |(i,v)::r,j=>cond (Nat.beq i j) (some v) (Yq r j)
def Qx (ex:List (Nat×AP)) (R N:AP):Exit→Act→World→Prop
 | .normal=>N
 | .exit i=>match Yq ex i with
  |some k=>k
  |none=>λ_ _=>False
 | .ret=>R
 |_=>λ_ _=>False
def FF:Option Nat→Fence
 |none=>Fence.wide
 |some l=>Fence.wide.inRound l
def Xy (o:Oper):Bool:=match o.op with| .defer _=>false|_=>true
def Uu:Code→Bool
 | .skip=>true
 | .region _ ops _=>ops.toList.all Xy
 | .seq x y=>Uu x&&Uu y
 | .cond _ x y=>Uu x&&Uu y
 | .block _ c=>Uu c
 | .loop c=>Uu c
 | .exit _=>true
 | .ret=>true
 |_=>false
def RD (rd:Option Nat) (c:Code):Prop:=rd=none∨Uu c=true
def Pp (rd:Option Nat) (f:FuncId):(FF rd).fn f:=by cases rd<;>trivial
def Q0 (rd:Option Nat):(FF rd).depth=none:=by cases rd<;>rfl
def Wi (rd:Option Nat):(FF rd).round=rd:=by cases rd<;>rfl
def Pc (P:Program) (rd:Option Nat):Machine.fenced P (FF rd)=Machine.fenced P Fence.wide:=by cases rd<;>rfl
def W7 {P:Program}{f:FuncId}{a:Array Value}{w:World}{R:Ending→World→Prop}{rd:Option Nat}{n:Nat}(h:Calls P f a w R):CallsIn (FF rd) n P f a w R:=
 ⟨Pp rd f,λcs _=>let ⟨e,b,fr,r,s,x⟩:=h cs;⟨e,b,fr,r,by rw[Pc];exact comesIn_wide.2 s,x⟩⟩
def Yg {P:Program}{b:String}{a:Array Value}{w:World}{R:Value→World→Prop}{rd:Option Nat}{n:Nat}(h:Rows P b a w R):RowsIn (FF rd) n P b a w R:=
 λc cs _=>let ⟨v,d,r,s⟩:=h c cs;⟨v,d,r,by rw[Pc];exact stepsIn_wide.2 s⟩
section
variable {P:Program}{ops:Array Oper}{Q:Exit→Act→World→Prop}{rd:Option Nat}
def Yn {o:Oper}{a:Act}{w:World}{K:Act→World→Prop}(b:rd=none∨Xy o=true) (g:∀a w,¬Q .outgrown a w) (h:o.wp P a w K Q∨(o.asks P a w∧LetsOut Q)):o.wpIn (FF rd) 0 P a w K Q:=by
 rcases h with h|⟨_,a0,w0,h⟩
 ·refine⟨λf _=>Pp rd f,?_⟩;have i:o.semAt (FF rd).round a.eval=execOp a.eval o:=by
   rw[Wi];cases rd with
   |none=>rfl
   |some l=>exact Oper.semAt_some l _ _ λc j=>b.elim (λb=>by cases b) λb=>by unfold Xy at b;rw[j] at b;cases b
  rw[i];unfold Oper.wp at h;generalize (execOp a.eval o).run P w=r at h
  cases r with
  |ok k m=>
   cases k<;>simp only[Oper.upon,Oper.uponIn] at h ⊢
   case value v=>exact h
   case skip=>exact h
   case defer d=>exact h
   case enter f args=>exact⟨λhd=>(by rw[Q0] at hd;cases hd),W7 (h.mono λe n p=>by cases e<;>exact p)⟩
   case row r args=>exact⟨λhd=>(by rw[Q0] at hd;cases hd),Yg h⟩
  |halt x m=>cases x<;>simp only[Oper.upon,Oper.uponIn] at h ⊢;exact h
 ·exact absurd h (g a0 w0)
def Ta (c:∀a w,¬Q .outgrown a w):∀(l:List Oper) (a:Act) (w:World),(rd=none∨l.all Xy=true)→wpList P ops Q l a w→wpListIn (FF rd) 0 P ops Q l a w
 |[],_,_,_,h=>h
 |o::b,a,w,g,h=>by
  have j:rd=none∨Xy o=true:=g.imp id λh=>by simp only[List.all_cons,gG] at h;exact h.1
  have i:rd=none∨b.all Xy=true:=g.imp id λh=>by simp only[List.all_cons,gG] at h;exact h.2
  unfold wpList at h;unfold wpListIn;split
  ·rename_i d;rw[gO d] at h;exact Yn j c (h.imp (Oper.wp_mono λa w k=>Ta c b a w i k) id)
  ·rename_i d;rw[gL d] at h;exact⟨λf _=>Pp rd f,Ta c b _ w i h⟩
def UH (g:∀a w,¬Q .outgrown a w) (j:rd=none∨ops.toList.all Xy=true):∀(b:Nat) (c:Array Bool) (a:Act) (w:World),wpAny P .any ops Q b c a w→wpAnyIn (FF rd) 0 P .any ops Q b c a w
 |0,_,_,_,h=>h
 |b+1,c,a,w,h=>⟨h.1,λi p=>by
  have d:=h.2 i p;unfold wpOp at d;unfold wpOpIn;cases l:ops[i]? with
  |none=>simp only[l] at d ⊢;exact UH g j b _ a w d
  |some o=>
   simp only[l] at d ⊢;have m:rd=none∨Xy o=true:=j.imp id λh=>gE.1 h o (by have:=Array.mem_of_getElem? l;simpa using this);split
   ·rename_i n;rw[gO n] at d;exact Yn m g (d.imp (Oper.wp_mono λa w k=>UH g j b _ a w k) id)
   ·rename_i n;rw[gL n] at d;exact⟨λf _=>Pp rd f,UH g j b _ _ w d⟩⟩
def TW {l:List Oper}{id:Nat}{a:Act}{w:World}(hd:RD rd (.region id l.toArray false)) (b:∀a w,¬Q .outgrown a w) (h:wpList P l.toArray Q l a w):(Code.region id l.toArray false).wpIn (FF rd) 0 P Q a w:=
 wpIn_region_lit (Ta b l a w (hd.imp (λx=>x) λh=>by simpa [Uu] using h) h)
def Mb {id:Nat}{a:Act}{w:World}(hd:RD rd (.region id ops true)) (b:∀a w,¬Q .outgrown a w) (c:P.follows .mixedOrders=true)
  (h:wpAny P .any ops Q ops.size (Array.replicate ops.size false) a { w with drawn:=w.drawn+1}):(Code.region id ops true).wpIn (FF rd) 0 P Q a w:=
 wpIn_region_any c (UH b (hd.imp (λx=>x) λh=>by simpa [Uu] using h) _ _ _ _ h)
end
def W (P:Program) (ex:List (Nat×AP)) (R:AP):List Code→AP→AP
 |[],N=>N
 |c::cs,N=>λa w=>∀rd,RD rd c→c.wpIn (FF rd) 0 P (Qx ex R (W P ex R cs N)) a w
section
variable {P:Program}{ex:List (Nat×AP)}{R N:AP}{cs:List Code}{a:Act}{w:World}
def RD.seq {rd:Option Nat}{x y:Code}(h:RD rd (.seq x y)):RD rd x∧RD rd y:=
 ⟨h.imp id λh=>by simp only[Uu,gG] at h;exact h.1,h.imp id λh=>by simp only[Uu,gG] at h;exact h.2⟩
def RD.cond {rd:Option Nat}{X:Operand}{x y:Code}(h:RD rd (.cond X x y)):RD rd x∧RD rd y:=
 ⟨h.imp id λh=>by simp only[Uu,gG] at h;exact h.1,h.imp id λh=>by simp only[Uu,gG] at h;exact h.2⟩
def RD.block {rd:Option Nat}{i:Nat}{c:Code}(h:RD rd (.block i c)):RD rd c:=h
def RD.loop {rd:Option Nat}{c:Code}(h:RD rd (.loop c)):RD rd c:=h
def LI {ex:List (Nat×AP)}{R N:AP}:∀a w,¬(Qx ex R N) .outgrown a w:=λ_ _ h=>h
def aZ {x y:Code}(h:W P ex R (x::y::cs) N a w):W P ex R (.seq x y::cs) N a w:=by
 intro rd hd;refine wpIn_seq (wpIn_mono (h rd hd.seq.1) λe b c q=>?_);cases e with
 |normal=>exact q rd hd.seq.2
 |_=>exact q
def YW (h:W P ex R cs N a w):W P ex R (.skip::cs) N a w:=λ_ _=>wpIn_skip h
def bA (h:R a w):W P ex R (.ret::cs) N a w:=λ_ _=>wpIn_ret h
def VH {i:Nat}{k:AP}(b:Yq ex i=some k) (h:k a w):W P ex R (.exit i::cs) N a w:=by
 refine λ_ _=>wpIn_exit ?_;simp only[Qx,b];exact h
def eM {n m X b}{x y:Code}(c:Fr n a m) (d:BU m X=some (.bool b)) (g:b=true→W P ex R (x::cs) N a w) (i:b=false→W P ex R (y::cs) N a w):
  W P ex R (.cond X x y::cs) N a w:=λrd hd=>wpIn_cond_split (c.eval d) (λe=>g e rd hd.cond.1) λe=>i e rd hd.cond.2
def bB {n m X}{x y:Code}(b:Fr n a m) (c:BU m X=some (.bool true)) (d:W P ex R (x::cs) N a w):
  W P ex R (.cond X x y::cs) N a w:=λrd hd=>wpIn_cond_true (b.eval c) (d rd hd.cond.1)
def bC {n m X}{x y:Code}(b:Fr n a m) (c:BU m X=some (.bool false)) (d:W P ex R (y::cs) N a w):
  W P ex R (.cond X x y::cs) N a w:=λrd hd=>wpIn_cond_false (b.eval c) (d rd hd.cond.2)
def Sa {i:Nat}{c:Code}(I:AP) (g:W P ((i,I)::ex) R [c] I a w) (d:∀a w,I a w→W P ex R cs N a w):W P ex R (.block i c::cs) N a w:=by
 intro rd hd;refine wpIn_block (wpIn_mono (g rd hd.block) λe l m q=>?_);cases e with
 |exit j=>
  simp only[Exit.inBlock,Qx,Yq] at q ⊢;by_cases b:j=i
  ·subst b;rw[gO rfl];have:Nat.beq j j=true:=Nat.beq_refl j;rw[this] at q;exact d _ _ q
  ·rw[gL b];have:Nat.beq i j=false:=by
    cases k:Nat.beq i j with
    |false=>rfl
    |true=>exact absurd (gH k).symm b
   rw[this] at q;exact q
 |normal=>exact d _ _ q
 |_=>exact q
def Ws {i:Nat}{c:Code}(h:W P ((i,W P ex R cs N)::ex) R [c] (W P ex R cs N) a w):W P ex R (.block i c::cs) N a w:=Sa _ h λ_ _ x=>x
def YX {b:AP}(h:W P ex R cs N a w) (d:∀a w,N a w→b a w):W P ex R cs b a w:=by
 induction cs generalizing a w with
 |nil=>exact d _ _ h
 |cons c cs g=>
  intro rd hd;refine wpIn_mono (h rd hd) λe i j q=>?_;cases e with
  |normal=>exact g q
  |_=>exact q
def bD {c:Code}(I:AP) (b:W P ex R [c] I a w) (d:∀a w,I a w→W P ex R cs N a w):W P ex R (c::cs) N a w:=by
 intro rd hd;refine wpIn_mono (b rd hd) λe g i q=>?_;cases e with
 |normal=>exact d _ _ q
 |_=>exact q
def YY {c:Code}(I:Nat→AP) (T d:Nat) (h0:I d a w) (g:∀i a w,I i a w→i≤T)
  (b:∀i a w,I i a w→W P ex R [c] (I (i+1)) a w):W P ex R (.loop c::cs) N a w:=by
 intro rd hd;refine wpIn_loop_ghost (λk a w=>∃i,I i a w∧k=T-i+1) (T-d+1) ⟨d,h0,rfl⟩ ?_;rintro n a w ⟨i,j,rfl⟩;refine wpIn_mono (b i a w j rd hd.loop) λe o p q=>?_;cases e with
 |normal=>
  have s:=g _ _ _ j;have m:I (i+1) o p:=q;have t:=g _ _ _ m;exact⟨_,by omega,i+1,m,rfl⟩
 |exit id=>exact q
 |goto l=>exact q
 |ret=>exact q
 |panic u=>exact q
 |outgrown=>exact q
end
def LK {P:Program}{ops:Array Oper}{C:World→Prop}{K:Act→Prop}{Q:Exit→Act→World→Prop}(d:∀a w,C w→K a→Q .normal a w):
  ∀(l:List Oper) (a:Act) (w:World),C w→wpQuiet P ops C K l a→wpList P ops Q l a w
 |[],a,w,c,h=>d a w c h
 |o::b,a,w,c,h=>by
  unfold wpQuiet at h;unfold wpList;split
  ·rename_i g;rw[gO g] at h;exact .inl (Oper.wp_of_quiet c (λj k i m=>LK d b j k i m) h)
  ·rename_i g;rw[gL g] at h;exact LK d b _ w c h
def VW (P:Program) (l:List Oper) (draw:Bool):Prop:=draw=false∨(P.follows .mixedOrders=true∧Region.lexB .any l.toArray=true)
def Sk {P:Program}{C:World→Prop}{l:List Oper}{id:Nat}{draw:Bool}{Q:Exit→Act→World→Prop}{a:Act}{w:World}{rd:Option Nat}(b:RD rd (.region id l.toArray draw)) (g:∀a w,¬Q .outgrown a w) (m:VW P l draw) (c:C w) (hd:∀w,C w→C { w with drawn:=w.drawn+1})
  (h:wpQuiet P l.toArray C (λi=>∀d,C d→Q .normal i d) l a):(Code.region id l.toArray draw).wpIn (FF rd) 0 P Q a w:=by
 rcases m with rfl|⟨hm,hB⟩
 ·exact TW b g (LK (λa w c j=>j w c) l a w c h)
 ·cases draw with
  |false=>exact TW b g (LK (λa w c j=>j w c) l a w c h)
  |true=>
   simp only[Region.lexB,gG] at hB;refine Mb b g hm (wpAny_of_quiet (Q:=λi=>∀d,C d→Q .normal i d) (λ_ d k h=>h d k) _ _ _ _ (hd w c) ?_);have:=wpAnyQ_lex (C:=C) (md:= .any) hB.1 l 0 (Array.replicate l.toArray.size false) a (by simp) (by simpa using hB.2) h;simpa using this
def Wd.drew {B h w}(k:Wd B h w):Wd B h { w with drawn:=w.drawn+1}:=⟨k.heap,k.os,k.tape,k.out⟩
section
variable {P:Program}{ex:List (Nat×AP)}{R N:AP}{cs:List Code}{a:Act}{w:World}{B:World}{h:AT}{l:List Oper}{id:Nat}{draw:Bool}{S:Nat→Prop}{L:List HP}
def eJ (c:VW P l draw) (d:Wd B h w) (k:wpQuiet P l.toArray (Wd B h) (λg=>∀b,Wd B h b→W P ex R cs N g b) l a):W P ex R (.region id l.toArray draw::cs) N a w:=
 λ_ hd=>Sk hd LI c d (λ_=>Wd.drew) k
def eL (j:VW P l draw) (m:Wd B h w) (i:St S L h) (k:wpQuiet P l.toArray (Cl B h) (λc=>∀b h',Wd B h' b→St S L h'→B6 S h S h'→W P ex R cs N c b) l a):W P ex R (.region id l.toArray draw::cs) N a w:=by
 intro rd hd;refine Sk (C:=Cl B h) hd LI j ⟨h,m,CF.refl h⟩ (λw ⟨h',g,d⟩=>⟨h',g.drew,d⟩) ?_;refine RW l.length (λc=>∀b h',Wd B h' b→St S L h'→B6 S h S h'→W P ex R cs N c b) (by simpa using k) λc n=>?_;simp only[List.drop_length];exact λb ⟨h',g,d⟩=>n b h' g (d.st i) (d.ext i.1)
def eK (k:wpList P l.toArray (Qx ex R (W P ex R cs N)) l a w):W P ex R (.region id l.toArray false::cs) N a w:=λ_ hd=>TW hd LI k
end
def X0 {P:Program}{ops:Array Oper}{ex:List (Nat×AP)}{R N:AP}{a:Act}{w:World}(h:N a w):wpList P ops (Qx ex R N) [] a w:=h
def OR {P:Program}{ops:Array Oper}{Q:Exit→Act→World→Prop}:∀(k:Nat) (l:List Oper) (a:Act) (w:World),
  wpList P ops (Exit.then (wpList P ops Q (l.drop k)) Q) (l.take k) a w→wpList P ops Q l a w
 |0,l,a,w,h=>by simpa [wpList,Exit.then] using h
 |k+1,[],a,w,h=>by simpa [wpList,Exit.then] using h
 |k+1,o::l,a,w,h=>by
  simp only[List.take_succ_cons,List.drop_succ_cons] at h;unfold wpList at h ⊢;split
  ·rename_i g;rw[gO g] at h;rcases h with b|⟨b,i,j,h2⟩
   ·refine .inl ?_;unfold Oper.wp at b ⊢;generalize (execOp a.eval o).run P w=r at b
    cases r with
    |ok p q=>
     cases p<;>simp only[Oper.upon] at b ⊢
     case value v=>exact OR k l _ _ b
     case skip=>exact OR k l _ _ b
     case defer d=>exact OR k l _ _ b
     case enter f args=>
      refine b.mono λe m n=>?_;cases e with
      |returned v=>exact OR k l _ _ n
      |panicked c=>exact n
      |outgrown=>obtain⟨i,j,h0⟩:=n;exact⟨i,j,h0⟩
     case row r args=>obtain b:=b;exact Rows.mono b λv m s=>OR k l _ _ s
    |halt x q=>cases x<;>simp only[Oper.upon] at b ⊢;exact b
   ·exact .inr ⟨b,i,j,h2⟩
  ·rename_i g;rw[gL g] at h;exact OR k l _ _ h
def l_q {P:Program}{ops:Array Oper}{Q:Exit→Act→World→Prop}{l:List Oper}{a:Act}{w B:World}{h:AT}(k:Nat) (b:Wd B h w)
  (d:wpQuiet P ops (Wd B h) (λg=>∀c,Wd B h c→wpList P ops Q (l.drop k) g c) (l.take k) a):wpList P ops Q l a w:=
 OR k l a w (LK (Q:=Exit.then (wpList P ops Q (l.drop k)) Q) (λ_ w b i=>i w b) (l.take k) a w b d)
def B0 (P:Program) (f:FuncId) (a:Array Value) (S:Nat→Prop) (h:AT) (post:Value→(Nat→Prop)→AT→Prop):Prop:=
 ∀B w,Wd B h w→Calls P f a w λe b=>∃v S' h',e= .returned v∧Wd B h' b∧B6 S h S' h'∧post v S' h'
def B0.mono {P f args S h}{post a:Value→(Nat→Prop)→AT→Prop}(k:B0 P f args S h post) (c:∀v S' h',B6 S h S' h'→post v S' h'→a v S' h'):B0 P f args S h a:=
 λB w d=>(k B w d).mono λ_ _ ⟨v,S',h',g,i,b,j⟩=>⟨v,S',h',g,i,b,c v S' h' b j⟩
def Th:Nat→List Value→List (Nat×Value)
 |_,[]=>[]
 |i,v::r=>(i,v)::Th (i+1) r
def UA:∀(l:List Value) (k i:Nat) (v:Value),lk (Th k l) i=some v→k≤i∧l[i-k]? =some v
 |[],k,i,v,h=>by simp [Th,lk] at h
 |d::r,k,i,v,h=>by
  simp only[Th,lk] at h;cases a:Nat.beq k i with
  |true=>
   rw[a] at h;have:=gH a;subst this;simp only[iC,hY] at h;exact⟨gN _,by simpa using h⟩
  |false=>
   rw[a] at h;simp only[gU] at h;obtain⟨c,b⟩:=UA r (k+1) i v h;refine⟨by omega,?_⟩;have:i-k=(i-(k+1))+1:=by omega
   rw[this];simpa using b
def Fr.args {n:Nat}{l:List Value}(h:l.length≤n):Fr (n,[]) ⟨l.toArray++Array.replicate (n-l.toArray.size) undef,[]⟩ (Th 0 l):=by
 refine⟨rfl,by simp;omega,λi v c=>?_⟩;obtain⟨_,a⟩:=UA l 0 i v c;have b:i<l.length:=by have:=(hJ.1 a).1;omega
 simp only[Nat.sub_zero] at a;rw[kL (by simpa using b)];simpa using a
def Xz (a:List Nat):List Deferred:=a.map λD=>{ target:= .collected D,args:= #[]}
def Rt (P:Program) (fn:Func) (B:World) (S:Nat→Prop) (h:AT) (post:Value→(Nat→Prop)→AT→Prop):AP:=λa w=>
 ∃d:List Nat,a.defers=Xz d∧d.Nodup∧(∀D,D∈d→w.heap[D]? =some (.deferred (some [])))∧
  ∀c:World,c.os=w.os→c.tape=w.tape→c.output=w.output→c.heap.size=w.heap.size→(∀b,b∉d→c.heap[b]? =w.heap[b]?)→
   ∃v,(results fn a.tmps).run P c= .ok v c∧∃S' h',Wd B h' c∧B6 S h S' h'∧post v S' h'
def RY {w a:World}(g:a.heap.size=w.heap.size) (j:∀b,b∉([]:List Nat)→a.heap[b]? =w.heap[b]?):a.heap=w.heap:=by
 apply Array.ext g;intro i c d;have:=j i gV;rw[jD c,jD d] at this;exact gC this
def WH {P:Program}{fn:Func}{B:World}{S:Nat→Prop}{h:AT}{post:Value→(Nat→Prop)→AT→Prop}{a:Act}{w:World}{v:Value}{S':Nat→Prop}{h':AT}(hd:a.defers=[]) (g:∀w:World,Wd B h' w→(results fn a.tmps).run P w= .ok v w) (c:Wd B h' w) (e:B6 S h S' h') (k:post v S' h'):Rt P fn B S h post a w:=
 ⟨[],hd,List.nodup_nil,λD i=>(by cases i),λd j l m n o=>by
  have p:=RY n o;have b:Wd B h' d:=⟨p.trans c.heap,j.trans c.os,l.trans c.tape,m.trans c.out⟩
  exact⟨v,g d b,S',h',b,e,k⟩⟩
def UB {P:Program}{fn:Func}{c:Array Value}{R:Ending→World→Prop}:∀(d:List Nat) (w:World),d.Nodup→(∀D,D∈d→w.heap[D]? =some (.deferred (some [])))→
  (∀a:World,a.os=w.os→a.tape=w.tape→a.output=w.output→a.heap.size=w.heap.size→(∀b,b∉d→a.heap[b]? =w.heap[b]?)→∃v,(results fn c).run P a= .ok v a∧R (.returned v) a)→
  LeavesInM Fence.wide 0 P fn c R (Xz d) .returning w
 |[],w,_,_,k=>by
  obtain⟨v,i,j⟩:=k w rfl rfl rfl rfl λ_ _=>rfl;exact⟨v,i,j⟩
 |D::d,w,q,o,k=>by
  obtain⟨l,m⟩:=iY.1 q;have hd:=o D (gY ..);have n:(w.putObj D (.deferred none)).heap.size=w.heap.size:=by simp [World.putObj]
  refine⟨by simp,.inl ⟨D,_,rfl,run_takeDeferred hd,UB d _ m (λs g=>?_) λa i j t u x=>k a i j t (u.trans n) λb p=>?_⟩⟩
  ·rw[World.putObj_heap_other (λe=>l (by rw[←e];exact g))];exact o s (hE _ g)
  ·rw[x b λh=>p (hE _ h),World.putObj_heap_other (λe=>p (by rw[e];exact gY ..))]
def B0.intro {P f fn c l S h post}(n:Nat) (j:P.funcs[f]? =some fn) (m:fn.body=some c) (o:fn.ntmps=n) (p:l.length≤n)
  (k:∀B w a,Wd B h w→Fr (n,[]) a (Th 0 l)→W P [] (Rt P fn B S h post) [c] (Rt P fn B S h post) a w):B0 P f l.toArray S h post:=by
 intro B w s;subst o;refine(callsIn_wide (n:=0)).1 (callsIn_of_wp_marks j m trivial (wpIn_mono (k B w _ s (Fr.args p) none (.inl rfl)) λe g b q=>?_));have d:Rt P fn B S h post g b→LeavesInM Fence.wide 0 P fn g.tmps (λe b=>∃v S' h',e= .returned v∧Wd B h' b∧B6 S h S' h'∧post v S' h') g.defers .returning b:=by
  rintro⟨t,u,x,y,z⟩;rw[u];refine UB t b x y λA C D F G H=>?_;obtain⟨v,I,S',h',J,K,M⟩:=z A C D F G H;exact⟨v,I,v,S',h',rfl,J,K,M⟩
 cases e with
 |normal=>exact d q
 |ret=>exact d q
 |exit i=>simp only[Qx,Yq] at q
 |goto l=>exact q.elim
 |panic c=>exact q.elim
 |outgrown=>exact q.elim
section
variable {P:Program}{fn:Func}{B:World}{S S':Nat→Prop}{h h':AT}{post:Value→(Nat→Prop)→AT→Prop}{n:FN}{a:Act}{m:List (Nat×Value)}{w:World}
def rt1 {k:Nat}{t v}(b:Fr (k,[]) a m) (c:fn.results= #[.tmp t]) (d:lk m t=some v) (g:Wd B h' w) (e:B6 S h S' h') (k:post v S' h'):Rt P fn B S h post a w:=by
 refine WH b.dfr (λw _=>?_) g e k;rw[results_tmp c];have:=b.eval (X:= .tmp t) d;simp only[Act.eval] at this;rw[this]
end
def Sz {n:FN}{a:Act}{m:List (Nat×Value)}(i:Fr n a m) {xs:Array Operand}{b:List Value}(c:xs.toList.mapM (BU m)=some b):xs.map a.eval=b.toArray:=by
 obtain⟨l⟩:=xs;simp only at c;have:l.map a.eval=b:=by
  induction l generalizing b with
  |nil=>simp at c;subst c;rfl
  |cons x l j=>
   simp only[jO,kC,iZ] at c;obtain⟨y,k,o,g,d⟩:=c;simp only[Option.pure_def,hY] at d;subst d;simp only[iF,i.eval k,j g]
 rw[←this];simp
def BH (P:Program) (f:FuncId):Bool:=
 match P.funcs[f]? with
 |some fn=> !(fn.name== "runtime.NumGoroutine")&&fn.body.isSome
 |none=>false
def Sh {P:Program}{n:FN}{a:Act}{m:List (Nat×Value)}{w:World}{v:Option Nat}{f:Nat}{ty:TypeId}{g:String}{p:Array Edge}{X:Operand}{xs:Array Operand}{i:Array TypeId}
  {c vs:List Value} {first cap:Array Value}
  (o:Fr n a m) (q:BU m X=some (.func (.func f) first cap)) (j:xs.toList.mapM (BU m)=some c) (k:first.toList++c++cap.toList=vs) (b:BH P f=true):
  (execOp a.eval ⟨v,.call ⟨.value X,xs,i⟩,ty,g,p,none⟩).run P w= .ok (.enter f vs.toArray) w:=by
 have s:first++c.toArray++cap=vs.toArray:=by
  rw[←k];apply Array.ext';simp
 unfold BH at b;split at b
 ·rename_i fn l;simp only[gG,gS] at b;have t:¬fn.name= "runtime.NumGoroutine" :=by simpa using b.1
  have u:¬fn.body=none:=by intro h0;rw[h0] at b;simp at b
  simp only[execOp,resolve,o.eval q,Deferred.ofValue,Sz o j];simp [invoke,callFunc,l,t,u,s]
 ·cases b
def Vg {P:Program}{ops:Array Oper}{Q:Exit→Act→World→Prop}{n:FN}{a:Act}{m:List (Nat×Value)}{b:List Oper}{F f:Nat}{ty:TypeId}{g:String}{q:Array Edge}{X:Operand}{xs:Array Operand}{i:Array TypeId}
  {c vs:List Value} {first cap:Array Value} {S h B w} {post:Value→(Nat→Prop)→AT→Prop}
  (p:Fr n a m) (s:BU m X=some (.func (.func f) first cap)) (j:xs.toList.mapM (BU m)=some c) (l:first.toList++c++cap.toList=vs) (o:BH P f=true) (hd:Nat.blt F n.1=true)
  (t:Wd B h w) (u:B0 P f vs.toArray S h post)
  (k:∀v a w S' h',Fr n a ((F,v)::m)→Wd B h' w→B6 S h S' h'→post v S' h'→wpList P ops Q b a w):
  wpList P ops Q (⟨some F,.call ⟨.value X,xs,i⟩,ty,g,q,none⟩::b) a w:=by
 refine wpList_plain rfl λK x=>?_;unfold Oper.wp;rw[Sh p s j l o];refine(u B w t).mono λe y ⟨v,S',h',z,A,C,D⟩=>?_;subst z;exact x _ _ (k v _ y S' h' (p.put hd v) A C D)
def Yl {P:Program}{ops:Array Oper}{Q:Act→Prop}{n:FN}{a:Act}{m:List (Nat×Value)}{c:List Oper}{M f:Nat}{ty:TypeId}{i:String}{y:Array Edge}{X:Operand}{xs:Array Operand}{j:Array TypeId}
  {g vs:List Value} {first cap:Array Value} {h B} {v:Value}
  (t:Fr n a m) (z:BU m X=some (.func (.func f) first cap)) (l:xs.toList.mapM (BU m)=some g) (p:first.toList++g++cap.toList=vs) (q:BH P f=true) (hd:Nat.blt M n.1=true)
  (A:∀h',CF h h'→B0 P f vs.toArray (λb=>b<h'.size) h' (λU _ _=>U=v))
  (k:∀a,Fr n a ((M,v)::m)→wpQuiet P ops (Cl B h) Q c a):
  wpQuiet P ops (Cl B h) Q (⟨some M,.call ⟨.value X,xs,j⟩,ty,i,y,none⟩::c) a:=by
 unfold wpQuiet;rw[gO (by simp [Region.wanted])];refine⟨v,λw ⟨h',C,o⟩=>?_,k _ (t.put hd v)⟩;unfold Oper.quietAt;rw[Sh t z l p q];refine⟨rfl,(A h' o B w C).mono λJ K ⟨U,D,s,F,G,x,H⟩=>?_⟩;subst F;subst H;exact⟨rfl,s,G,o.trans ⟨x.siz,λb I=>x.same b I⟩⟩
def St.all (h:AT):St (λb=>b<h.size) [] h:=⟨λ_ x=>x,trivial⟩
end Go.Proofs.YtedgiljmffngoaaGreat
