import Derived.Test.YtibidnaedddfdaaGreatECore2
import Derived.Deep.LoopGhost
import Derived.Sort.LoopGhostIn
import Derived.TacticsIn
import Derived.OrdersIn
import Derived.RangeFuncLeaves
import Derived.RangeFuncNested
import Derived.Great.BuildSlice
namespace Go.Proofs.YtibidnaedddfdaaGreat
set_option linter.all false
open Go.RowKit
abbrev AP:=Act→World→Prop
def dU:List (Nat×AP)→Nat→Option AP
 |[],_=>none
 |(i,v)::r,j=>cond (Nat.beq i j) (some v) (dU r j)
def Qx (ex:List (Nat×AP)) (R N:AP):Exit→Act→World→Prop
 | .normal=>N
 | .exit i=>match dU ex i with
  |some k=>k
  |none=>λ_ _=>False
 | .ret=>R
 |_=>λ_ _=>False
def FF:Option Nat→Fence
 |none=>Fence.wide
 |some l=>Fence.wide.inRound l
def Y3 (o:Oper):Bool:=match o.op with| .defer _=>false|_=>true
def WM:Code→Bool
 | .skip=>true
 | .region _ ops _=>ops.toList.all Y3
 | .seq x y=>WM x&&WM y
 | .cond _ x y=>WM x&&WM y
 | .block _ c=>WM c
 | .loop c=>WM c
 | .exit _=>true
 | .ret=>true
 |_=>false
def RD (rd:Option Nat) (c:Code):Prop:=rd=none∨WM c=true
def OZ (rd:Option Nat) (f:FuncId):(FF rd).fn f:=by cases rd<;>trivial
def MQ (rd:Option Nat):(FF rd).depth=none:=by cases rd<;>rfl
def Th (rd:Option Nat):(FF rd).round=rd:=by cases rd<;>rfl
def Pw (P:Program) (rd:Option Nat):Machine.fenced P (FF rd)=Machine.fenced P Fence.wide:=by cases rd<;>rfl
def fN (rd:Option Nat) (n:Nat):(FF rd).room n:=λd h=>by rw[MQ] at h;cases h
def Ut {P:Program}{f:FuncId}{args:Array Value}{w:World}{R:Ending→World→Prop}{rd:Option Nat}{n:Nat}(h:Calls P f args w R):CallsIn (FF rd) n P f args w R:=
 ⟨OZ rd f,λcs _=>let ⟨e,a,fr,r,s,x⟩:=h cs;⟨e,a,fr,r,by rw[Pw];exact comesIn_wide.2 s,x⟩⟩
def iU {P:Program}{a:String}{args:Array Value}{w:World}{R:Value→World→Prop}{rd:Option Nat}{n:Nat}(h:Rows P a args w R):RowsIn (FF rd) n P a args w R:=
 λc cs _=>let ⟨v,b,r,s⟩:=h c cs;⟨v,b,r,by rw[Pw];exact stepsIn_wide.2 s⟩
section
variable {P:Program}{ops:Array Oper}{Q:Exit→Act→World→Prop}{rd:Option Nat}
def jQ {o:Oper}{a:Act}{w:World}{K:Act→World→Prop}(b:rd=none∨Y3 o=true) (g:∀a w,¬Q .outgrown a w) (h:o.wp P a w K Q∨(o.asks P a w∧LetsOut Q)):o.wpIn (FF rd) 0 P a w K Q:=by
 rcases h with h|⟨_,a0,w0,h⟩
 ·refine⟨λf _=>OZ rd f,?_⟩;have i:o.semAt (FF rd).round a.eval=execOp a.eval o:=by
   rw[Th];cases rd with
   |none=>rfl
   |some l=>exact Oper.semAt_some l _ _ λc j=>b.elim (λb=>by cases b) λb=>by unfold Y3 at b;rw[j] at b;cases b
  rw[i];unfold Oper.wp at h;generalize (execOp a.eval o).run P w=r at h
  cases r with
  |ok k m=>
   cases k<;>simp only[Oper.upon,Oper.uponIn] at h ⊢
   case value v=>exact h
   case skip=>exact h
   case defer d=>exact h
   case enter f args=>exact⟨λhd=>(by rw[MQ] at hd;cases hd),Ut (h.mono λe n p=>by cases e<;>exact p)⟩
   case row r args=>exact⟨λhd=>(by rw[MQ] at hd;cases hd),iU h⟩
  |halt x m=>cases x<;>simp only[Oper.upon,Oper.uponIn] at h ⊢;exact h
 ·exact absurd h (g a0 w0)
def We (c:∀a w,¬Q .outgrown a w):∀(l:List Oper) (a:Act) (w:World),(rd=none∨l.all Y3=true)→wpList P ops Q l a w→wpListIn (FF rd) 0 P ops Q l a w
 |[],_,_,_,h=>h
 |o::b,a,w,g,h=>by
  have j:rd=none∨Y3 o=true:=g.imp id λh=>by simp only[List.all_cons,uL] at h;exact h.1
  have i:rd=none∨b.all Y3=true:=g.imp id λh=>by simp only[List.all_cons,uL] at h;exact h.2
  unfold wpList at h;unfold wpListIn;split
  ·rename_i d;rw[uJ d] at h;exact jQ j c (h.imp (Oper.wp_mono λa w k=>We c b a w i k) id)
  ·rename_i d;rw[uI d] at h;exact⟨λf _=>OZ rd f,We c b _ w i h⟩
def Xv (g:∀a w,¬Q .outgrown a w) (j:rd=none∨ops.toList.all Y3=true):∀(b:Nat) (c:Array Bool) (a:Act) (w:World),wpAny P .any ops Q b c a w→wpAnyIn (FF rd) 0 P .any ops Q b c a w
 |0,_,_,_,h=>h
 |b+1,c,a,w,h=>⟨h.1,λi p=>by
  have d:=h.2 i p;unfold wpOp at d;unfold wpOpIn;cases l:ops[i]? with
  |none=>simp only[l] at d ⊢;exact Xv g j b _ a w d
  |some o=>
   simp only[l] at d ⊢;have m:rd=none∨Y3 o=true:=j.imp id λh=>uQ.1 h o (by have:=Array.mem_of_getElem? l;simpa using this);split
   ·rename_i n;rw[uJ n] at d;exact jQ m g (d.imp (Oper.wp_mono λa w k=>Xv g j b _ a w k) id)
   ·rename_i n;rw[uI n] at d;exact⟨λf _=>OZ rd f,Xv g j b _ _ w d⟩⟩
def WX {l:List Oper}{id:Nat}{a:Act}{w:World}(hd:RD rd (.region id l.toArray false)) (b:∀a w,¬Q .outgrown a w) (h:wpList P l.toArray Q l a w):(Code.region id l.toArray false).wpIn (FF rd) 0 P Q a w:=
 wpIn_region_lit (We b l a w (hd.imp (λx=>x) λh=>by simpa [WM] using h) h)
def O9 {id:Nat}{a:Act}{w:World}(hd:RD rd (.region id ops true)) (b:∀a w,¬Q .outgrown a w) (c:P.follows .mixedOrders=true)
  (h:wpAny P .any ops Q ops.size (Array.replicate ops.size false) a { w with drawn:=w.drawn+1}):(Code.region id ops true).wpIn (FF rd) 0 P Q a w:=
 wpIn_region_any c (Xv b (hd.imp (λx=>x) λh=>by simpa [WM] using h) _ _ _ _ h)
end
def W (P:Program) (ex:List (Nat×AP)) (R:AP):List Code→AP→AP
 |[],N=>N
 |c::cs,N=>λa w=>∀rd,RD rd c→c.wpIn (FF rd) 0 P (Qx ex R (W P ex R cs N)) a w
section
variable {P:Program}{ex:List (Nat×AP)}{R N:AP}{cs:List Code}{a:Act}{w:World}
def RD.seq {rd:Option Nat}{x y:Code}(h:RD rd (.seq x y)):RD rd x∧RD rd y:=
 ⟨h.imp id λh=>by simp only[WM,uL] at h;exact h.1,h.imp id λh=>by simp only[WM,uL] at h;exact h.2⟩
def RD.cond {rd:Option Nat}{X:Operand}{x y:Code}(h:RD rd (.cond X x y)):RD rd x∧RD rd y:=
 ⟨h.imp id λh=>by simp only[WM,uL] at h;exact h.1,h.imp id λh=>by simp only[WM,uL] at h;exact h.2⟩
def RD.block {rd:Option Nat}{i:Nat}{c:Code}(h:RD rd (.block i c)):RD rd c:=h
def RD.loop {rd:Option Nat}{c:Code}(h:RD rd (.loop c)):RD rd c:=h
def Mx {ex:List (Nat×AP)}{R N:AP}:∀a w,¬(Qx ex R N) .outgrown a w:=λ_ _ h=>h
def nP {x y:Code}(h:W P ex R (x::y::cs) N a w):W P ex R (.seq x y::cs) N a w:=by
 intro rd hd;refine wpIn_seq (wpIn_mono (h rd hd.seq.1) λe b c q=>?_);cases e with
 |normal=>exact q rd hd.seq.2
 |_=>exact q
def iI (h:W P ex R cs N a w):W P ex R (.skip::cs) N a w:=λ_ _=>wpIn_skip h
def nQ (h:R a w):W P ex R (.ret::cs) N a w:=λ_ _=>wpIn_ret h
def ZC {i:Nat}{k:AP}(b:dU ex i=some k) (h:k a w):W P ex R (.exit i::cs) N a w:=by
 refine λ_ _=>wpIn_exit ?_;simp only[Qx,b];exact h
def sP {n m X b}{x y:Code}(c:Fr n a m) (d:CL m X=some (.bool b)) (g:b=true→W P ex R (x::cs) N a w) (i:b=false→W P ex R (y::cs) N a w):
  W P ex R (.cond X x y::cs) N a w:=λrd hd=>wpIn_cond_split (c.eval d) (λe=>g e rd hd.cond.1) λe=>i e rd hd.cond.2
def nR {n m X}{x y:Code}(b:Fr n a m) (c:CL m X=some (.bool true)) (d:W P ex R (x::cs) N a w):
  W P ex R (.cond X x y::cs) N a w:=λrd hd=>wpIn_cond_true (b.eval c) (d rd hd.cond.1)
def nS {n m X}{x y:Code}(b:Fr n a m) (c:CL m X=some (.bool false)) (d:W P ex R (y::cs) N a w):
  W P ex R (.cond X x y::cs) N a w:=λrd hd=>wpIn_cond_false (b.eval c) (d rd hd.cond.2)
def VN {i:Nat}{c:Code}(I:AP) (g:W P ((i,I)::ex) R [c] I a w) (d:∀a w,I a w→W P ex R cs N a w):W P ex R (.block i c::cs) N a w:=by
 intro rd hd;refine wpIn_block (wpIn_mono (g rd hd.block) λe l m q=>?_);cases e with
 |exit j=>
  simp only[Exit.inBlock,Qx,dU] at q ⊢;by_cases b:j=i
  ·subst b;rw[uJ rfl];have:Nat.beq j j=true:=Nat.beq_refl j;rw[this] at q;exact d _ _ q
  ·rw[uI b];have:Nat.beq i j=false:=by
    cases k:Nat.beq i j with
    |false=>rfl
    |true=>exact absurd (uR k).symm b
   rw[this] at q;exact q
 |normal=>exact d _ _ q
 |_=>exact q
def cW {i:Nat}{c:Code}(h:W P ((i,W P ex R cs N)::ex) R [c] (W P ex R cs N) a w):W P ex R (.block i c::cs) N a w:=VN _ h λ_ _ x=>x
def iJ {b:AP}(h:W P ex R cs N a w) (d:∀a w,N a w→b a w):W P ex R cs b a w:=by
 induction cs generalizing a w with
 |nil=>exact d _ _ h
 |cons c cs g=>
  intro rd hd;refine wpIn_mono (h rd hd) λe i j q=>?_;cases e with
  |normal=>exact g q
  |_=>exact q
def nT {c:Code}(I:AP) (b:W P ex R [c] I a w) (d:∀a w,I a w→W P ex R cs N a w):W P ex R (c::cs) N a w:=by
 intro rd hd;refine wpIn_mono (b rd hd) λe g i q=>?_;cases e with
 |normal=>exact d _ _ q
 |_=>exact q
def iK {c:Code}(I:Nat→AP) (T d:Nat) (h0:I d a w) (g:∀i a w,I i a w→i≤T)
  (b:∀i a w,I i a w→W P ex R [c] (I (i+1)) a w):W P ex R (.loop c::cs) N a w:=by
 intro rd hd;refine wpIn_loop_ghost (λk a w=>∃i,I i a w∧k=T-i+1) (T-d+1) ⟨d,h0,rfl⟩ ?_;rintro n a w ⟨i,j,rfl⟩;refine wpIn_mono (b i a w j rd hd.loop) λe o p q=>?_;cases e with
 |normal=>
  have s:=g _ _ _ j;have m:I (i+1) o p:=q;have t:=g _ _ _ m;exact⟨_,by omega,i+1,m,rfl⟩
 |exit id=>exact q
 |goto l=>exact q
 |ret=>exact q
 |panic u=>exact q
 |outgrown=>exact q
end
def L6 {P:Program}{ops:Array Oper}{C:World→Prop}{K:Act→Prop}{Q:Exit→Act→World→Prop}(d:∀a w,C w→K a→Q .normal a w):
  ∀(l:List Oper) (a:Act) (w:World),C w→wpQuiet P ops C K l a→wpList P ops Q l a w
 |[],a,w,c,h=>d a w c h
 |o::b,a,w,c,h=>by
  unfold wpQuiet at h;unfold wpList;split
  ·rename_i g;rw[uJ g] at h;exact .inl (Oper.wp_of_quiet c (λj k i m=>L6 d b j k i m) h)
  ·rename_i g;rw[uI g] at h;exact L6 d b _ w c h
def ZX (P:Program) (l:List Oper) (draw:Bool):Prop:=draw=false∨(P.follows .mixedOrders=true∧Region.lexB .any l.toArray=true)
def Vd {P:Program}{C:World→Prop}{l:List Oper}{id:Nat}{draw:Bool}{Q:Exit→Act→World→Prop}{a:Act}{w:World}{rd:Option Nat}(b:RD rd (.region id l.toArray draw)) (g:∀a w,¬Q .outgrown a w) (m:ZX P l draw) (c:C w) (hd:∀w,C w→C { w with drawn:=w.drawn+1})
  (h:wpQuiet P l.toArray C (λi=>∀d,C d→Q .normal i d) l a):(Code.region id l.toArray draw).wpIn (FF rd) 0 P Q a w:=by
 rcases m with rfl|⟨hm,hB⟩
 ·exact WX b g (L6 (λa w c j=>j w c) l a w c h)
 ·cases draw with
  |false=>exact WX b g (L6 (λa w c j=>j w c) l a w c h)
  |true=>
   simp only[Region.lexB,uL] at hB;refine O9 b g hm (wpAny_of_quiet (Q:=λi=>∀d,C d→Q .normal i d) (λ_ d k h=>h d k) _ _ _ _ (hd w c) ?_);have:=wpAnyQ_lex (C:=C) (md:= .any) hB.1 l 0 (Array.replicate l.toArray.size false) a (by simp) (by simpa using hB.2) h;simpa using this
def Wd.drew {B h w}(k:Wd B h w):Wd B h { w with drawn:=w.drawn+1}:=⟨k.heap,k.os,k.tape,k.out⟩
section
variable {P:Program}{ex:List (Nat×AP)}{R N:AP}{cs:List Code}{a:Act}{w:World}{B:World}{h:AX}{l:List Oper}{id:Nat}{draw:Bool}{S:Nat→Prop}{L:List HP}
def sM (c:ZX P l draw) (d:Wd B h w) (k:wpQuiet P l.toArray (Wd B h) (λg=>∀b,Wd B h b→W P ex R cs N g b) l a):W P ex R (.region id l.toArray draw::cs) N a w:=
 λ_ hd=>Vd hd Mx c d (λ_=>Wd.drew) k
def sO (j:ZX P l draw) (m:Wd B h w) (i:St S L h) (k:wpQuiet P l.toArray (Cl B h) (λc=>∀b h',Wd B h' b→St S L h'→Cc S h S h'→W P ex R cs N c b) l a):W P ex R (.region id l.toArray draw::cs) N a w:=by
 intro rd hd;refine Vd (C:=Cl B h) hd Mx j ⟨h,m,Gf.refl h⟩ (λw ⟨h',g,d⟩=>⟨h',g.drew,d⟩) ?_;refine T4 l.length (λc=>∀b h',Wd B h' b→St S L h'→Cc S h S h'→W P ex R cs N c b) (by simpa using k) λc n=>?_;simp only[List.drop_length];exact λb ⟨h',g,d⟩=>n b h' g (d.st i) (d.ext i.1)
def sN (k:wpList P l.toArray (Qx ex R (W P ex R cs N)) l a w):W P ex R (.region id l.toArray false::cs) N a w:=λ_ hd=>WX hd Mx k
end
def gD {P:Program}{ops:Array Oper}{ex:List (Nat×AP)}{R N:AP}{a:Act}{w:World}(h:N a w):wpList P ops (Qx ex R N) [] a w:=h
def QU {P:Program}{ops:Array Oper}{Q:Exit→Act→World→Prop}:∀(k:Nat) (l:List Oper) (a:Act) (w:World),
  wpList P ops (Exit.then (wpList P ops Q (l.drop k)) Q) (l.take k) a w→wpList P ops Q l a w
 |0,l,a,w,h=>by simpa [wpList,Exit.then] using h
 |k+1,[],a,w,h=>by simpa [wpList,Exit.then] using h
 |k+1,o::l,a,w,h=>by
  simp only[List.take_succ_cons,List.drop_succ_cons] at h;unfold wpList at h ⊢;split
  ·rename_i g;rw[uJ g] at h;rcases h with b|⟨b,i,j,h2⟩
   ·refine .inl ?_;unfold Oper.wp at b ⊢;generalize (execOp a.eval o).run P w=r at b
    cases r with
    |ok p q=>
     cases p<;>simp only[Oper.upon] at b ⊢
     case value v=>exact QU k l _ _ b
     case skip=>exact QU k l _ _ b
     case defer d=>exact QU k l _ _ b
     case enter f args=>
      refine b.mono λe m n=>?_;cases e with
      |returned v=>exact QU k l _ _ n
      |panicked c=>exact n
      |outgrown=>obtain⟨i,j,h0⟩:=n;exact⟨i,j,h0⟩
     case row r args=>obtain b:=b;exact Rows.mono b λv m s=>QU k l _ _ s
    |halt x q=>cases x<;>simp only[Oper.upon] at b ⊢;exact b
   ·exact .inr ⟨b,i,j,h2⟩
  ·rename_i g;rw[uI g] at h;exact QU k l _ _ h
def l_q {P:Program}{ops:Array Oper}{Q:Exit→Act→World→Prop}{l:List Oper}{a:Act}{w B:World}{h:AX}(k:Nat) (b:Wd B h w)
  (d:wpQuiet P ops (Wd B h) (λg=>∀c,Wd B h c→wpList P ops Q (l.drop k) g c) (l.take k) a):wpList P ops Q l a w:=
 QU k l a w (L6 (Q:=Exit.then (wpList P ops Q (l.drop k)) Q) (λ_ w b i=>i w b) (l.take k) a w b d)
def CD (P:Program) (f:FuncId) (args:Array Value) (S:Nat→Prop) (h:AX) (post:Value→(Nat→Prop)→AX→Prop):Prop:=
 ∀B w,Wd B h w→Calls P f args w λe a=>∃v S' h',e= .returned v∧Wd B h' a∧Cc S h S' h'∧post v S' h'
def CD.mono {P f args S h}{post a:Value→(Nat→Prop)→AX→Prop}(k:CD P f args S h post) (c:∀v S' h',Cc S h S' h'→post v S' h'→a v S' h'):CD P f args S h a:=
 λB w d=>(k B w d).mono λ_ _ ⟨v,S',h',g,i,b,j⟩=>⟨v,S',h',g,i,b,c v S' h' b j⟩
def Wq:Nat→List Value→List (Nat×Value)
 |_,[]=>[]
 |i,v::r=>(i,v)::Wq (i+1) r
def Xa:∀(l:List Value) (k i:Nat) (v:Value),lk (Wq k l) i=some v→k≤i∧l[i-k]? =some v
 |[],k,i,v,h=>by simp [Wq,lk] at h
 |u::r,k,i,v,h=>by
  simp only[Wq,lk] at h;cases a:Nat.beq k i with
  |true=>
   rw[a] at h;have:=uR a;subst this;simp only[uG,vU] at h;exact⟨uW _,by simpa using h⟩
  |false=>
   rw[a] at h;simp only[uH] at h;obtain⟨c,b⟩:=Xa r (k+1) i v h;refine⟨by omega,?_⟩;have:i-k=(i-(k+1))+1:=by omega
   rw[this];simpa using b
def Fr.args {n:Nat}{l:List Value}(h:l.length≤n):Fr (n,[]) ⟨l.toArray++Array.replicate (n-l.toArray.size) undef,[]⟩ (Wq 0 l):=by
 refine⟨rfl,by simp;omega,λi v c=>?_⟩;obtain⟨_,a⟩:=Xa l 0 i v c;have b:i<l.length:=by have:=(uV.1 a).1;omega
 simp only[Nat.sub_zero] at a;rw[Array.getElem?_append_left (by simpa using b)];simpa using a
def OQ (Ds:List Nat):List Deferred:=Ds.map λD=>{ target:= .collected D,args:= #[]}
def WL (Ds:List Nat):HP where
 holds:=λ_ F h=>Ds.Nodup∧(∀b,F b↔b∈Ds)∧∀D,D∈Ds→h[D]? =some (.deferred (some []))
 loc:=λ⟨d,a,g⟩ _ e=>⟨d,a,λD c=>(e D (.inr ((a D).2 c))).trans (g D c)⟩
def Rt (P:Program) (fn:Func) (B:World) (S:Nat→Prop) (h:AX) (post:Value→(Nat→Prop)→AX→Prop):AP:=λa w=>
 ∃Ds:List Nat,a.defers=OQ Ds∧Ds.Nodup∧(∀D,D∈Ds→w.heap[D]? =some (.deferred (some [])))∧
  ∀c:World,c.os=w.os→c.tape=w.tape→c.output=w.output→c.heap.size=w.heap.size→(∀b,b∉Ds→c.heap[b]? =w.heap[b]?)→
   ∃v,(results fn a.tmps).run P c= .ok v c∧∃S' h',Wd B h' c∧Cc S h S' h'∧post v S' h'
def UA {w a:World}(g:a.heap.size=w.heap.size) (j:∀b,b∉([]:List Nat)→a.heap[b]? =w.heap[b]?):a.heap=w.heap:=by
 apply Array.ext g;intro i c d;have:=j i vD;rw[yE c,yE d] at this;exact uX this
def WH {P:Program}{fn:Func}{B:World}{S:Nat→Prop}{h:AX}{post:Value→(Nat→Prop)→AX→Prop}{a:Act}{w:World}{v:Value}{S':Nat→Prop}{h':AX}(hd:a.defers=[]) (g:∀w:World,Wd B h' w→(results fn a.tmps).run P w= .ok v w) (c:Wd B h' w) (e:Cc S h S' h') (k:post v S' h'):Rt P fn B S h post a w:=
 ⟨[],hd,List.nodup_nil,λD i=>(by cases i),λd j l m n o=>by
  have p:=UA n o;have b:Wd B h' d:=⟨p.trans c.heap,j.trans c.os,l.trans c.tape,m.trans c.out⟩
  exact⟨v,g d b,S',h',b,e,k⟩⟩
def Xc {P:Program}{fn:Func}{c:Array Value}{R:Ending→World→Prop}:∀(Ds:List Nat) (w:World),Ds.Nodup→(∀D,D∈Ds→w.heap[D]? =some (.deferred (some [])))→
  (∀a:World,a.os=w.os→a.tape=w.tape→a.output=w.output→a.heap.size=w.heap.size→(∀b,b∉Ds→a.heap[b]? =w.heap[b]?)→∃v,(results fn c).run P a= .ok v a∧R (.returned v) a)→
  LeavesInM Fence.wide 0 P fn c R (OQ Ds) .returning w
 |[],w,_,_,k=>by
  obtain⟨v,g,i⟩:=k w rfl rfl rfl rfl λ_ _=>rfl;exact⟨v,g,i⟩
 |D::Ds,w,p,n,k=>by
  obtain⟨j,l⟩:=yO.1 p;have hd:=n D (vW ..);have m:(w.putObj D (.deferred none)).heap.size=w.heap.size:=by simp [World.putObj]
  refine⟨by simp,.inl ⟨D,_,rfl,run_takeDeferred hd,Xc Ds _ l (λq d=>?_) λa g i s t u=>k a g i s (t.trans m) λb o=>?_⟩⟩
  ·rw[World.putObj_heap_other (λe=>j (by rw[←e];exact d))];exact n q (vX _ d)
  ·rw[u b λh=>o (vX _ h),World.putObj_heap_other (λe=>o (by rw[e];exact vW ..))]
def CD.intro {P f fn c l S h post}(n:Nat) (j:P.funcs[f]? =some fn) (m:fn.body=some c) (o:fn.ntmps=n) (p:l.length≤n)
  (k:∀B w a,Wd B h w→Fr (n,[]) a (Wq 0 l)→W P [] (Rt P fn B S h post) [c] (Rt P fn B S h post) a w):CD P f l.toArray S h post:=by
 intro B w s;subst o;refine(callsIn_wide (n:=0)).1 (callsIn_of_wp_marks j m trivial (wpIn_mono (k B w _ s (Fr.args p) none (.inl rfl)) λe g b q=>?_));have d:Rt P fn B S h post g b→LeavesInM Fence.wide 0 P fn g.tmps (λe b=>∃v S' h',e= .returned v∧Wd B h' b∧Cc S h S' h'∧post v S' h') g.defers .returning b:=by
  rintro⟨Ds,t,u,x,y⟩;rw[t];refine Xc Ds b u x λz A C D F G=>?_;obtain⟨v,H,S',h',I,J,K⟩:=y z A C D F G;exact⟨v,H,v,S',h',rfl,I,J,K⟩
 cases e with
 |normal=>exact d q
 |ret=>exact d q
 |exit i=>simp only[Qx,dU] at q
 |goto l=>exact q.elim
 |panic c=>exact q.elim
 |outgrown=>exact q.elim
section
variable {P:Program}{fn:Func}{B:World}{S S':Nat→Prop}{h h':AX}{post:Value→(Nat→Prop)→AX→Prop}{n:FN}{a:Act}{m:List (Nat×Value)}{w:World}
def rt1 {k:Nat}{t v}(b:Fr (k,[]) a m) (c:fn.results= #[.tmp t]) (d:lk m t=some v) (g:Wd B h' w) (e:Cc S h S' h') (k:post v S' h'):Rt P fn B S h post a w:=by
 refine WH b.dfr (λw _=>?_) g e k;rw[results_tmp c];have:=b.eval (X:= .tmp t) d;simp only[Act.eval] at this;rw[this]
def rt0 {k:Nat}(b:Fr (k,[]) a m) (c:fn.results= #[]) (d:Wd B h' w) (e:Cc S h S' h') (k:post (.tuple #[]) S' h'):Rt P fn B S h post a w:=
 WH b.dfr (λw _=>results_none c _ _ _) d e k
end
def Xl {n:FN}{a:Act}{m:List (Nat×Value)}(g:Fr n a m) {xs:Array Operand}{args:List Value}(b:xs.toList.mapM (CL m)=some args):xs.map a.eval=args.toArray:=by
 obtain⟨l⟩:=xs;simp only at b;have:l.map a.eval=args:=by
  induction l generalizing args with
  |nil=>simp at b;subst b;rfl
  |cons x l i=>
   simp only[yP,zP,xK] at b;obtain⟨y,j,k,d,c⟩:=b;simp only[Option.pure_def,vU] at c;subst c;simp only[wA,g.eval j,i d]
 rw[←this];simp
def BG (P:Program) (f:FuncId):Bool:=
 match P.funcs[f]? with
 |some fn=> !(fn.name== "runtime.NumGoroutine")&&fn.body.isSome
 |none=>false
def Va {P:Program}{n:FN}{a:Act}{m:List (Nat×Value)}{w:World}{d:Option Nat}{f:Nat}{ty:TypeId}{c:String}{o:Array Edge}{X:Operand}{xs:Array Operand}{g:Array TypeId}
  {args vs:List Value} {first cap:Array Value}
  (l:Fr n a m) (p:CL m X=some (.func (.func f) first cap)) (i:xs.toList.mapM (CL m)=some args) (j:first.toList++args++cap.toList=vs) (b:BG P f=true):
  (execOp a.eval ⟨d,.call ⟨.value X,xs,g⟩,ty,c,o,none⟩).run P w= .ok (.enter f vs.toArray) w:=by
 have q:first++args.toArray++cap=vs.toArray:=by
  rw[←j];apply Array.ext';simp
 unfold BG at b;split at b
 ·rename_i fn k;simp only[uL,vE] at b;have s:¬fn.name= "runtime.NumGoroutine" :=by simpa using b.1
  have t:¬fn.body=none:=by intro h0;rw[h0] at b;simp at b
  simp only[execOp,resolve,l.eval p,Deferred.ofValue,Xl l i];simp [invoke,callFunc,k,s,t,q]
 ·cases b
def Zo {P:Program}{ops:Array Oper}{Q:Exit→Act→World→Prop}{n:FN}{a:Act}{m:List (Nat×Value)}{b:List Oper}{d f:Nat}{ty:TypeId}{c:String}{p:Array Edge}{X:Operand}{xs:Array Operand}{g:Array TypeId}
  {args vs:List Value} {first cap:Array Value} {S h B w} {post:Value→(Nat→Prop)→AX→Prop}
  (o:Fr n a m) (q:CL m X=some (.func (.func f) first cap)) (i:xs.toList.mapM (CL m)=some args) (j:first.toList++args++cap.toList=vs) (l:BG P f=true) (hd:Nat.blt d n.1=true)
  (s:Wd B h w) (t:CD P f vs.toArray S h post)
  (k:∀v a w S' h',Fr n a ((d,v)::m)→Wd B h' w→Cc S h S' h'→post v S' h'→wpList P ops Q b a w):
  wpList P ops Q (⟨some d,.call ⟨.value X,xs,g⟩,ty,c,p,none⟩::b) a w:=by
 refine wpList_plain rfl λK u=>?_;unfold Oper.wp;rw[Va o q i j l];refine(t B w s).mono λe x ⟨v,S',h',y,z,A,C⟩=>?_;subst y;exact u _ _ (k v _ x S' h' (o.put hd v) z A C)
def jL {P:Program}{ops:Array Oper}{Q:Act→Prop}{n:FN}{a:Act}{m:List (Nat×Value)}{c:List Oper}{d f:Nat}{ty:TypeId}{g:String}{x:Array Edge}{X:Operand}{xs:Array Operand}{i:Array TypeId}
  {args vs:List Value} {first cap:Array Value} {h B} {v:Value}
  (s:Fr n a m) (y:CL m X=some (.func (.func f) first cap)) (j:xs.toList.mapM (CL m)=some args) (l:first.toList++args++cap.toList=vs) (p:BG P f=true) (hd:Nat.blt d n.1=true)
  (z:∀h',Gf h h'→CD P f vs.toArray (λb=>b<h'.size) h' (λu _ _=>u=v))
  (k:∀a,Fr n a ((d,v)::m)→wpQuiet P ops (Cl B h) Q c a):
  wpQuiet P ops (Cl B h) Q (⟨some d,.call ⟨.value X,xs,i⟩,ty,g,x,none⟩::c) a:=by
 unfold wpQuiet;rw[uJ (by simp [Region.wanted])];refine⟨v,λw ⟨h',A,o⟩=>?_,k _ (s.put hd v)⟩;unfold Oper.quietAt;rw[Va s y j l p];refine⟨rfl,(z h' o B w A).mono λI J ⟨u,C,q,D,F,t,G⟩=>?_⟩;subst D;subst G;exact⟨rfl,q,F,o.trans ⟨t.siz,λb H=>t.same b H⟩⟩
def St.all (h:AX):St (λb=>b<h.size) [] h:=⟨λ_ x=>x,trivial⟩
def FG (P:Program) (t:TypeId):Option (List Value):=((P.info? t).bind (·.zero)).map (·.cells.toList)
def Bx (b:Nat) (T:TypeId) (cs:List Value):HP where
 holds:=λ_ F h=>(∀c,F c↔c=b)∧h[b]? =some (.cells cs.toArray T (0,0))
 loc:=λ⟨a,d⟩ _ e=>⟨a,(e _ (.inr ((a _).2 rfl))).trans d⟩
def Bx.cell {b T cs S F h}(k:(Bx b T cs).holds S F h) (j:Nat):JT h ⟨b,j,none⟩=cs[j]? :=by simp [JT,k.2]
def IE (h:AX) (o:Obj) (b:Nat) (a:b<h.size):(h.push o)[b]? =h[b]? :=by rw[Array.getElem?_push,uI (by omega)]
def Le (h:AX) (o:Obj):(h.push o)[h.size]? =some o:=by simp
def Wd.alloc {B h w}(k:Wd B h w) (o:Obj):Wd B (h.push o) (w.alloc o):=⟨by show(w.heap.push o)=_;rw[k.heap],k.os,k.tape,k.out⟩
def St.push {S L h}(c:St S L h) (T:TypeId) (cs:List Value):St S (Bx h.size T cs::L) (h.push (.cells cs.toArray T))∧Cc S h S (h.push (.cells cs.toArray T)):=
 c.add (by simp) (λb a=>IE _ _ _ a) ⟨λb=>b=h.size,⟨λ_=>Iff.rfl,Le _ _⟩,λb a=>by subst a;simp⟩
section
variable {P:Program}{ops:Array Oper}{Q:Exit→Act→World→Prop}{n:FN}{a:Act}{m:List (Nat×Value)}{rest:List Oper}
variable {d:Nat}{ty:TypeId}{pos:String}{af:Array Edge}{X:Operand}{B w:World}{h:AX}{S:Nat→Prop}{L:List HP}
def gE {T:TypeId}{v:Value}{cs:List Value}(g:Fr n a m) (j:CL m X=some v) (l:v.cells=cs.toArray) (hd:Nat.blt d n.1=true) (i:Wd B h w) (o:St S L h)
  (k:∀b a w h',Fr n a ((d,.pointer (some ⟨b,0,none⟩))::m)→Wd B h' w→St S (Bx b T cs::L) h'→Cc S h S h'→wpList P ops Q rest a w):
  wpList P ops Q (⟨some d,.box T X,ty,pos,af,none⟩::rest) a w:=by
 refine wpList_plain rfl λK p=>?_;unfold Oper.wp;have c:(execOp a.eval ⟨some d,.box T X,ty,pos,af,none⟩).run P w= .ok (.value (.pointer (some ⟨w.heap.size,0,none⟩))) (w.alloc (.cells cs.toArray T)):=by
  simp [execOp,g.eval j,Instr.box,newVar,newRow,l]
 rw[c];obtain⟨q,s⟩:=o.push T cs;exact p _ _ (k _ _ _ _ (g.put hd _) (i.alloc _) (by rw[i.heap];exact q) s)
def jW {T:TypeId}{v:Value}{α}{r:BU α}{x:α}(y:Fr n a m) (z:CL m X=some v) (A:Rd S h r v x) (C:r.ag=false→r.sz=1) (hd:Nat.blt d n.1=true) (D:Wd B h w) (G:St S L h)
  (k:∀p a w S' h',Fr n a ((d,p)::m)→Wd B h' w→St S' L h'→Cc S h S' h'→Pt S' h' r p x→wpList P ops Q rest a w):
  wpList P ops Q (⟨some d,.box T X,ty,pos,af,none⟩::rest) a w:=by
 obtain⟨cs,H,g⟩:=A;have I:v.cells=cs.toArray:=by
  subst H;unfold BU.val;cases i:r.ag with
  |true=>rfl
  |false=>
   have t:=r.len g;rw[C i] at t
   match cs,t,g with
   |[c],_,g=>
    have J:=r.one g c (by simp);cases c<;>first|rfl|(simp [Value.oneCell'] at J)
 refine gE y z I hd D G λb a w h' l o q e=>?_;obtain⟨F,u,M,K,s⟩:=q.pub .head;refine k _ a w _ h' l o K (e.trans s) ⟨cs,⟨⟨b,0,none⟩,rfl,rfl,.inr ((u.1 _).2 rfl),λj U=>?_⟩,r.mono (r.mono g e.sub e.same) s.sub s.same⟩;simp only[vO];exact Bx.cell u j
def tL {T:TypeId}{cs:List Value}(o:Fr n a m) (c:FG P T=some cs) (hd:Nat.blt d n.1=true) (l:Wd B h w) (p:St S L h)
  (k:∀b a w h',Fr n a ((d,.pointer (some ⟨b,0,none⟩))::m)→Wd B h' w→St S (Bx b T cs::L) h'→Cc S h S h'→wpList P ops Q rest a w):
  wpList P ops Q (⟨some d,.alloc T,ty,pos,af,none⟩::rest) a w:=by
 refine wpList_plain rfl λK q=>?_;unfold Oper.wp;unfold FG at c;simp only[wV,xK] at c;obtain⟨z,⟨i,s,c⟩,j⟩:=c;have t:z.cells=cs.toArray:=by rw[←j]
 have g:(execOp a.eval ⟨some d,.alloc T,ty,pos,af,none⟩).run P w= .ok (.value (.pointer (some ⟨w.heap.size,0,none⟩))) (w.alloc (.cells cs.toArray T)):=by
  simp [execOp,Instr.alloc,newVar,newRow,zeroValue,typeInfo,s,c,t]
 rw[g];obtain⟨u,v⟩:=p.push T cs;exact q _ _ (k _ _ _ _ (o.put hd _) (l.alloc _) (by rw[l.heap];exact u) v)
def IA (cs:List Value) (o:Nat) (vs:List Value):List Value:=cs.take o++vs++cs.drop (o+vs.length)
def Qo (w:World) (i:Nat) (a c':Array Value) (T:TypeId) (c:w.heap[i]? =some (.cells a T (0,0))):
  ∃h',(w.setRow i c').heap=h'∧h'.size=w.heap.size∧h'[i]? =some (.cells c' T (0,0))∧∀b,b≠i→h'[b]? =w.heap[b]? :=by
 refine⟨_,rfl,?_,setRow_heap w i a _ T _ c,λb d=>setRow_other w i b _ d⟩;simp [World.setRow]
def tI {T d:TypeId}{Y:Operand}{b o:Nat}{v:Value}{cs vs cs':List Value}{A:List HP}{sz:Nat}{ag:Bool}(t:Fr n a m) (I:CL m X=some (.pointer (some ⟨b,o,none⟩))) (J:CL m Y=some v) (U:v.cells=vs.toArray) (V:∀u∈vs,u.oneCell'=true)
  (W:LV P T sz ag=true) (x:vs.length=sz) (g:Nat.ble (o+sz) cs.length=true) (Z:IA cs o vs=cs') (j:Wd B h w) (C:St S L h) (r:Mp L (Bx b d cs) (Bx b d cs') A)
  (k:∀a w h',Fr n a m→Wd B h' w→St S A h'→Cc S h S h'→wpList P ops Q rest a w):
  wpList P ops Q (⟨none,.store T X Y,ty,pos,af,none⟩::rest) a w:=by
 refine wpList_plain rfl λK hK=>?_;unfold Oper.wp;obtain⟨M,p,_⟩:=r.pick;obtain⟨F,g1,g2,_⟩:=Sp.pick p C.2;have D:w.heap[b]? =some (.cells cs.toArray d (0,0)):=by rw[j.heap];exact g1.2
 obtain⟨i,dd,hi,hd,y,aa⟩:=Qm W;have l:=run_storeCells_at P b o d vs 0 cs.toArray w D (by simp;have:=yF g;omega) V;have q:(List.take (o+0) cs.toArray.toList++vs++List.drop (o+0+vs.length) cs.toArray.toList)=cs':=by rw[←Z];simp [IA]
 rw[q] at l;have s:(execOp a.eval ⟨none,.store T X Y,ty,pos,af,none⟩).run P w= .ok .skip (w.setRow b cs'.toArray):=by
  simp [execOp,t.eval I,t.eval J,Instr.storeAt,Instr.sureAddr,storeVar,U,Rb hi,y,x,l]
 rw[s];obtain⟨h',e1,e2,e3,G⟩:=Qo w b cs.toArray cs'.toArray d D;rw[j.heap] at e2 G;obtain⟨u1,u2⟩:=C.upd (h':=h') r (by omega) λF H k2=>⟨F,⟨H.1,e3⟩,λc z=> .inl z,λc _ z=>G c λe=>z ((H.1 c).2 e)⟩
 exact hK _ _ (k _ _ h' t ⟨e1,j.os,j.tape,j.out⟩ u1 u2)
end
def Yt (vs:List Value):∀(cs:List Value) (o k:Nat),o+k+vs.length≤cs.length→
  (vs.zipIdx k).foldl (λcs (p:Value×Nat)=>cs.set (o+p.2) p.1) cs=cs.take (o+k)++vs++cs.drop (o+k+vs.length):=by
 induction vs with
 |nil=>intro cs o k h;simp
 |cons v vs b=>
  intro cs o k h;simp only[List.length_cons] at h;simp only[List.zipIdx_cons,List.foldl_cons];rw[b (cs.set (o+k) v) o (k+1) (by simp;omega)];have a:o+k<cs.length:=by omega
  have c:o+(k+1)=(o+k)+1:=by omega
  have d:o+k+1+vs.length=o+k+(vs.length+1):=by omega
  rw[c,d,List.drop_set_of_lt (by omega),List.length_cons,yQ (by simpa using a),List.getElem_set_self,List.take_set_of_le (by omega)];simp
def TE (f:Nat→Nat):∀(l:List (Value×Nat)) (cs:List Value),
  l.foldl (λ(cs:Array Value) (p:Value×Nat)=>cs.setIfInBounds (f p.2) p.1) cs.toArray=(l.foldl (λcs (p:Value×Nat)=>cs.set (f p.2) p.1) cs).toArray
 |[],cs=>rfl
 |p::l,cs=>by
  simp only[List.foldl_cons];rw[List.setIfInBounds_toArray,TE f l]
def NV (b:List (Nat×Nat)):List Value→List (Nat×Value)→Option (List Value)
 |cs,[]=>some cs
 |cs,(i,v)::r=>match b[i]? with
  |none=>none
  |some (a,sz)=>cond (Nat.beq v.cells.toList.length sz&&Nat.ble (a+sz) cs.length) (NV b (IA cs a v.cells.toList) r) none
def N8 (b:List (Nat×Nat)):∀(j:List (Nat×Value)) (cs cs':List Value),NV b cs j=some cs'→Instr.fill (b.toArray[·]?) cs.toArray j=some cs'.toArray
 |[],cs,cs',h=>by simp [NV] at h;subst h;rfl
 |(i,v)::r,cs,cs',h=>by
  simp only[NV] at h;split at h
  ·cases h
  ·rename_i a sz k;cases c:(Nat.beq v.cells.toList.length sz&&Nat.ble (a+sz) cs.length) with
   |false=>rw[c] at h;cases h
   |true=>
    rw[c] at h;simp only[uG] at h;simp only[uL] at c;have l:v.cells.size=sz:=by simpa using uR c.1
    have n:=yF c.2;have m:=N8 b r _ cs' h;have g:b.toArray[i]? =some (a,sz):=by simpa using k
    simp only[Instr.fill,g];rw[uI (by simp [l];omega)];have d:v.cells.zipIdx.foldl (λ(cs:Array Value) (p:Value×Nat)=>cs.setIfInBounds (a+p.2) p.1) cs.toArray=(IA cs a v.cells.toList).toArray:=by
     rw[←Array.foldl_toList,Array.toList_zipIdx,TE (a+ ·),Yt _ _ _ _ (by simp;omega)];simp [IA]
    exact(uP (λx=>Instr.fill (b.toArray[·]?) x r) d).trans m
def VJ (P:Program) (T:TypeId):Option (List (Nat×Nat)×List Value):=
 match P.underlying T,FG P T with
 |some (.struct a),some z=>(a.toList.mapM (λf=>(P.info? f.type).map λi=>(f.offset,i.size))).map λb=>(b,z)
 |_,_=>none
def bM {P:Program}{T:TypeId}{pl z pv cs}(h:VJ P T=some (pl,z)) (g:NV pl z pv=some cs):P.built T pv=some cs.toArray:=by
 unfold VJ at h;split at h
 ·rename_i n j k a;simp only[wV,yR] at h;obtain⟨b,l,rfl,rfl⟩:=h;unfold FG at a;simp only[wV,xK] at a;obtain⟨o,⟨i,m,c⟩,d⟩:=a;simp only[Program.built,m,k,c,l];have:=N8 b pv j cs g;rw[←d] at this;simpa using this
 ·cases h
def M1:Value→Nat
 | .int _ _=>1| .bool _=>2| .string _=>3|_=>0
def Y4:Value→Value→Bool
 | .int _ a,.int _ b=>decide (a=b)
 | .bool a,.bool b=>a==b
 | .string a,.string b=>a==b
 |_,_=>false
def R6:List Value→List Value→Bool
 |[],_=>true
 |_::_,[]=>true
 |a::r,b::s=>Y4 a b&&R6 r s
section
variable {P:Program}{ops:Array Oper}{C:World→Prop}{Q:Act→Prop}{n:FN}{a:Act}{m:List (Nat×Value)}{rest:List Oper}
variable {d:Nat}{ty:TypeId}{pos:String}{af:Array Edge}{X Y:Operand}
def dM (m:List (Nat×Value)) (p:Nat×Operand):Option (Nat×Value):=(CL m p.2).map λv=>(p.1,v)
def pC {T:TypeId}{b:Array (Nat×Operand)}{pl z pv cs}(o:Fr n a m) (s:VJ P T=some (pl,z)) (c:b.toList.mapM (dM m)=some pv) (q:NV pl z pv=some cs) (hd:Nat.blt d n.1=true)
  (k:∀a,Fr n a ((d,.agg cs.toArray)::m)→wpQuiet P ops C Q rest a):wpQuiet P ops C Q (⟨some d,.build T b,ty,pos,af,none⟩::rest) a:=by
 refine Hf o hd (λw _=>?_) k;have i:(b.map λ(p:Nat×Operand)=>(p.1,a.eval p.2)).toList=pv:=by
  obtain⟨l⟩:=b;simp only at c;simp only[List.map_toArray];clear q k
  induction l generalizing pv with
  |nil=>simp at c;subst c;rfl
  |cons x l t=>
   simp only[yP,zP,xK,dM,wV] at c;obtain⟨y,⟨v,u,rfl⟩,A,j,g⟩:=c;simp only[Option.pure_def,vU] at g;subst g;simp only[wA,o.eval u,t j]
 have:=run_build (P:=P) w T (b.map λ(p:Nat×Operand)=>(p.1,a.eval p.2)) cs.toArray (by rw[i];exact bM s q);simp only[execOp,Sem.run_bind,this];rfl
def gI (P:Program) (T:TypeId):Option (List Nat):=
 if P.stoodInHeld T||P.eqGuardType P.depth T then none else
 match P.underlying T with
 |some (.struct a)=>a.toList.zipIdx.mapM λ(f,i)=>
  if f.name== "_" || !Nat.beq f.offset i then none else
  match P.underlying f.type with
  |some (.int _)=>some 1
  |some .bool=>some 2
  |some .string=>some 3
  |_=>none
 |_=>none
def Qr {w:World}:∀(D:List Field) (t:List Nat) (i d:Nat) (xs c:List Value),
  (D.zipIdx i).mapM (λ(p:Field×Nat)=>if p.1.name== "_" || !Nat.beq p.1.offset p.2 then none else
   match P.underlying p.1.type with
   |some (.int _)=>some 1
   |some .bool=>some 2
   |some .string=>some 3
   |_=>none)=some t→(xs.drop i).map M1=t→(c.drop i).map M1=t→(∀(j:Nat) (G:IntKind) (n1:Int) (Z:IntKind) (n2:Int),xs[j]? =some (Value.int G n1)→c[j]? =some (Value.int Z n2)→G=Z)→
  (Op.eqFields (d+1) xs.toArray c.toArray D).run P w= .ok (R6 (xs.drop i) (c.drop i)) w
 |[],t,i,d,xs,c,h,l,m,H=>by
  simp at h;subst h;have h1:xs.drop i=[]:=by simpa using l
  rw[h1];rfl
 |f::D,t,i,d,xs,c,h,l,m,H=>by
  simp only[List.zipIdx_cons,yP,zP,xK] at h;obtain⟨G,a,I,u,v⟩:=h;simp only[Option.pure_def,vU] at v;subst v;split at a
  ·cases a
  ·rename_i g;simp only[uZ,not_or,xQ,vE,Bool.not_eq_false] at g;obtain⟨J,K⟩:=g;have A:=uR K;have M:f.name≠ "_" :=by simpa using J
   cases n:xs.drop i with
   |nil=>rw[n] at l;simp at l
   |cons x xr=>
   cases o:c.drop i with
   |nil=>rw[o] at m;simp at m
   |cons y yr=>
   rw[n] at l;rw[o] at m;simp only[wA,List.cons.injEq] at l m;have q:xs[i]? =some x:=by have:=uP (·[0]?) n;simpa using this
   have s:c[i]? =some y:=by have:=uP (·[0]?) o;simpa using this
   have B:xs.drop (i+1)=xr:=by have:=uP List.tail n;simpa [List.tail_drop] using this
   have C:c.drop (i+1)=yr:=by have:=uP List.tail o;simpa [List.tail_drop] using this
   have F:=Qr (w:=w) D I (i+1) d xs c u (by rw[B];exact l.2) (by rw[C];exact m.2) H;rw[B,C] at F;have b:∀Q,P.underlying f.type=some Q→eM Q=false→∀(U:List Value) z,U[i]? =some z→(part f.type U.toArray f.offset).run P w= .ok z w:=by
    intro Q V b U z hz;simp [part,Tz V,b,A,hz]
   simp only[Op.eqFields,uJ M,Sem.run_bind,R6];split at a
   ·rename_i kk k;simp only[vU] at a;subst a;rw[b _ k rfl xs x q];simp only[Result.andThen_ok];rw[b _ k rfl c y s];simp only[Result.andThen_ok];cases x<;>simp [M1] at l;cases y<;>simp [M1] at m;rename_i ka W kb nb;have:=H i ka W kb nb q s;subst this;rw[run_equalIn_int w d f.type ka kk W nb k];simp only[Result.andThen_ok,Y4,Sem.run_ite,Sem.run_pure];rw[Sc];cases decide (W=nb)<;>simp [F]
   ·rename_i k;simp only[vU] at a;subst a;rw[b _ k rfl xs x q];simp only[Result.andThen_ok];rw[b _ k rfl c y s];simp only[Result.andThen_ok];cases x<;>simp [M1] at l;cases y<;>simp [M1] at m;rw[run_equalIn_bool' w d f.type _ _ k];simp only[Result.andThen_ok,Y4,Sem.run_ite,Sem.run_pure];rename_i X Y;cases (X==Y)<;>simp [F]
   ·rename_i k;simp only[vU] at a;subst a;rw[b _ k rfl xs x q];simp only[Result.andThen_ok];rw[b _ k rfl c y s];simp only[Result.andThen_ok];cases x<;>simp [M1] at l;cases y<;>simp [M1] at m;rw[run_equalIn_string w d f.type _ _ k];simp only[Result.andThen_ok,Y4,Sem.run_ite,Sem.run_pure];rename_i X Y;rw[beq_toListBytes];cases (X.toList==Y.toList)<;>simp [F]
   ·cases a
def Qq:List Value→List Value→Bool
 | .int k _::r,.int l _::s=>decide (k=l)&&Qq r s
 |_::r,_::s=>Qq r s
 |_,_=>true
def Su:∀(xs p:List Value),Qq xs p=true→∀(j:Nat) (c:IntKind) (m:Int) (d:IntKind) (n:Int),xs[j]? =some (Value.int c m)→p[j]? =some (Value.int d n)→c=d
 |[],_,_,j,_,_,_,_,h,_=>by simp at h
 |_::_,[],_,j,_,_,_,_,_,h=>by simp at h
 |x::r,y::s,h,0,c,m,d,n,g,i=>by
  simp only[xR,vU] at g i;subst g;subst i;simp only[Qq,uL,uY] at h;exact h.1
 |x::r,y::s,h,j+1,c,m,d,n,g,i=>by
  simp only[xL] at g i;refine Su r s ?_ j c m d n g i;unfold Qq at h;split at h
  ·rename_i k l;simp only[uL] at h;injection k with k a;injection l with l b
   subst a;subst b;exact h.2
  ·rename_i k l;injection k with k a;injection l with l b
   subst a;subst b;exact h
  ·rename_i q o;exact absurd rfl (o _ _ _ _ rfl)
def Vy {T:TypeId}{c:List Nat}{xs a:List Value}{w:World}(h:gI P T=some c) (k:xs.map M1=c) (l:a.map M1=c) (m:Qq xs a=true):
  (Op.equalIn 10000 T (.agg xs.toArray) (.agg a.toArray)).run P w= .ok (R6 xs a) w∧∀(d:BinOp) (x y:Operand),(eqGuard d T x y (.agg xs.toArray) (.agg a.toArray)).run P w= .ok () w:=by
 unfold gI at h;split at h
 ·cases h
 ·rename_i g;simp only[uZ,not_or,xQ] at g;split at h
  ·rename_i i j;refine⟨?_,λd x y=>run_eqGuard_agg w d T x y _ _ g.2⟩;have b:P.fieldsOf T=i:=by simp [Program.fieldsOf,j]
   have:=run_equalIn_struct (P:=P) w 9999 T xs.toArray a.toArray (by rw[b];exact j) g.1;rw[this,b];exact Qr i.toList c 0 9998 xs a h (by simpa using k) (by simpa using l) (Su xs a m)
  ·cases h
def pA {T t2:TypeId}{ks xs ys}(b:Fr n a m) (i:CL m X=some (.agg xs)) (j:CL m Y=some (.agg ys)) (l:gI P T=some ks) (o:xs.toList.map M1=ks) (p:ys.toList.map M1=ks) (q:Qq xs.toList ys.toList=true) (hd:Nat.blt d n.1=true)
  (k:∀a,Fr n a ((d,.bool (R6 xs.toList ys.toList))::m)→wpQuiet P ops C Q rest a):wpQuiet P ops C Q (⟨some d,.binOp .eql T X Y t2,ty,pos,af,none⟩::rest) a:=
 Hf b hd (λw _=>by
  obtain⟨c,g⟩:=Vy (w:=w) l o p q;simp only[Array.toArray_toList] at c g;simp [execOp,b.eval i,b.eval j,g,run_eql_struct,c]) k
def oT {S:Nat→Prop}{L:List HP}{h:AX}{t T b o sz:Nat}{ag:Bool}{cs vs:List Value}(q:CK C h) (s:St S L h) (l:Fr n a m) (u:CL m X=some (.pointer (some ⟨b,o,none⟩))) (v:Bx b T cs∈L) (x:(cs.drop o).take sz=vs) (y:Nat.beq vs.length sz=true) (z:LV P t sz ag=true) (A:(ag||Nat.beq sz 1)=true) (hd:Nat.blt d n.1=true)
  (k:∀a,Fr n a ((d,if ag then .agg vs.toArray else vs.headD undef)::m)→wpQuiet P ops C Q rest a):wpQuiet P ops C Q (⟨some d,.load t X,ty,pos,af,none⟩::rest) a:=by
 refine Hf l hd (λw B=>?_) k;obtain⟨F,c,i⟩:=s.get v;have D:(Bx b T cs).holds S F w.heap:=⟨c.1,(q w B b (i b ((c.1 b).2 rfl)).1).trans c.2⟩
 have g:=uR y;have:=N5 (P:=P) (w:=w) (S:=λ_=>True) (p:= .pointer (some ⟨b,o,none⟩)) (cs:=vs) (sz:=sz) (ag:=ag) (t:=t) ⟨⟨b,o,none⟩,rfl,rfl,trivial,λj G=>by
  rw[Bx.cell D,←x,wU (by omega),wX]⟩ g z (λe=>by subst e;simpa using A)
 simp [execOp,l.eval u,this]
end
end Go.Proofs.YtibidnaedddfdaaGreat
