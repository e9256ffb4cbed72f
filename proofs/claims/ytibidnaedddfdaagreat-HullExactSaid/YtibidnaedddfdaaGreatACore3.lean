import Derived.Test.YtibidnaedddfdaaGreatACore2
import Derived.Deep.LoopGhost
import Derived.Sort.LoopGhostIn
import Derived.TacticsIn
import Derived.OrdersIn
import Derived.RangeFuncLeaves
import Derived.RangeFuncNested
namespace Go.Proofs.YtibidnaedddfdaaGreat
open Go.RowKit
abbrev AP:=Act→World→Prop
def Ud:List (Nat×AP)→Nat→Option AP
 |[],_=>none
 |(i,v)::r,j=>cond (Nat.beq i j) (some v) (Ud r j)
def Qx (ex:List (Nat×AP)) (R N:AP):Exit→Act→World→Prop
 | .normal=>N
 | .exit i=>match Ud ex i with
  |some k=>k
  |none=>λ_ _=>False
 | .ret=>R
 |_=>λ_ _=>False
def FF:Option Nat→Fence
 |none=>Fence.wide
 |some l=>Fence.wide.inRound l
def Rx (o:Oper):Bool:=match o.op with| .defer _=>false|_=>true
def P9:Code→Bool
 | .skip=>true
 | .region _ ops _=>ops.toList.all Rx
 | .seq x y=>P9 x&&P9 y
 | .cond _ x y=>P9 x&&P9 y
 | .block _ c=>P9 c
 | .loop c=>P9 c
 | .exit _=>true
 | .ret=>true
 |_=>false
def RD (rd:Option Nat) (c:Code):Prop:=rd=none∨P9 c=true
theorem KH (rd:Option Nat) (f:FuncId):(FF rd).fn f:=by cases rd<;>trivial
theorem IE (rd:Option Nat):(FF rd).depth=none:=by cases rd<;>rfl
theorem N3 (rd:Option Nat):(FF rd).round=rd:=by cases rd<;>rfl
theorem LO (P:Program) (rd:Option Nat):Machine.fenced P (FF rd)=Machine.fenced P Fence.wide:=by cases rd<;>rfl
theorem U3 (rd:Option Nat) (n:Nat):(FF rd).room n:=λd h=>by rw[IE] at h;cases h
theorem O5 {P:Program}{f:FuncId}{args:Array Value}{w:World}{R:Ending→World→Prop}{rd:Option Nat}{n:Nat}(h:Calls P f args w R):CallsIn (FF rd) n P f args w R:=
 ⟨KH rd f,λcs _=>let ⟨e,w',fr,r,s,x⟩:=h cs;⟨e,w',fr,r,by rw[LO];exact comesIn_wide.2 s,x⟩⟩
theorem Vl {P:Program}{row:String}{args:Array Value}{w:World}{R:Value→World→Prop}{rd:Option Nat}{n:Nat}(h:Rows P row args w R):RowsIn (FF rd) n P row args w R:=
 λc cs _=>let ⟨v,w',r,s⟩:=h c cs;⟨v,w',r,by rw[LO];exact stepsIn_wide.2 s⟩
section
variable {P:Program}{ops:Array Oper}{Q:Exit→Act→World→Prop}{rd:Option Nat}
theorem Vv {o:Oper}{a:Act}{w:World}{K:Act→World→Prop}(hn:rd=none∨Rx o=true) (hQ:∀a w,¬Q .outgrown a w) (h:o.wp P a w K Q∨(o.asks P a w∧LetsOut Q)):o.wpIn (FF rd) 0 P a w K Q:=by
 rcases h with h|⟨_,a0,w0,h⟩
 ·refine⟨λf _=>KH rd f,?_⟩
  have hs:o.semAt (FF rd).round a.eval=execOp a.eval o:=by
   rw[N3]
   cases rd with
   |none=>rfl
   |some l=>exact Oper.semAt_some l _ _ λc hc=>hn.elim (λhn=>by cases hn) λhn=>by unfold Rx at hn;rw[hc] at hn;cases hn
  rw[hs]
  unfold Oper.wp at h
  generalize (execOp a.eval o).run P w=r at h
  cases r with
  |ok nx w'=>
   cases nx<;>simp only[Oper.upon,Oper.uponIn] at h ⊢
   case value v=>exact h
   case skip=>exact h
   case defer d=>exact h
   case enter f args=>exact⟨λhd=>(by rw[IE] at hd;cases hd),O5 (h.mono λe w'' he=>by cases e<;>exact he)⟩
   case row r args=>exact⟨λhd=>(by rw[IE] at hd;cases hd),Vl h⟩
  |halt x w'=>cases x<;>simp only[Oper.upon,Oper.uponIn] at h ⊢;exact h
 ·exact absurd h (hQ a0 w0)
theorem QR (hQ:∀a w,¬Q .outgrown a w):∀(l:List Oper) (a:Act) (w:World),(rd=none∨l.all Rx=true)→wpList P ops Q l a w→wpListIn (FF rd) 0 P ops Q l a w
 |[],_,_,_,h=>h
 |o::rest,a,w,hn,h=>by
  have h1:rd=none∨Rx o=true:=hn.imp id λh=>by simp only[List.all_cons,Bool.and_eq_true] at h;exact h.1
  have h2:rd=none∨rest.all Rx=true:=hn.imp id λh=>by simp only[List.all_cons,Bool.and_eq_true] at h;exact h.2
  unfold wpList at h
  unfold wpListIn
  split
  ·rename_i hw
   rw[if_pos hw] at h
   exact Vv h1 hQ (h.imp (Oper.wp_mono λa w k=>QR hQ rest a w h2 k) id)
  ·rename_i hw
   rw[if_neg hw] at h
   exact⟨λf _=>KH rd f,QR hQ rest _ w h2 h⟩
theorem RK (hQ:∀a w,¬Q .outgrown a w) (hn:rd=none∨ops.toList.all Rx=true):∀(fuel:Nat) (listed:Array Bool) (a:Act) (w:World),wpAny P .any ops Q fuel listed a w→wpAnyIn (FF rd) 0 P .any ops Q fuel listed a w
 |0,_,_,_,h=>h
 |fuel+1,listed,a,w,h=>⟨h.1,λi hi=>by
  have h1:=h.2 i hi
  unfold wpOp at h1
  unfold wpOpIn
  cases ho:ops[i]? with
  |none=>simp only[ho] at h1 ⊢;exact RK hQ hn fuel _ a w h1
  |some o=>
   simp only[ho] at h1 ⊢
   have hno:rd=none∨Rx o=true:=hn.imp id λh=>List.all_eq_true.1 h o (by have:=Array.mem_of_getElem? ho;simpa using this)
   split
   ·rename_i hw
    rw[if_pos hw] at h1
    exact Vv hno hQ (h1.imp (Oper.wp_mono λa w k=>RK hQ hn fuel _ a w k) id)
   ·rename_i hw
    rw[if_neg hw] at h1
    exact⟨λf _=>KH rd f,RK hQ hn fuel _ _ w h1⟩⟩
theorem QH {l:List Oper}{id:Nat}{a:Act}{w:World}(hd:RD rd (.region id l.toArray false)) (hQ:∀a w,¬Q .outgrown a w) (h:wpList P l.toArray Q l a w):(Code.region id l.toArray false).wpIn (FF rd) 0 P Q a w:=
 wpIn_region_lit (QR hQ l a w (hd.imp (λx=>x) λh=>by simpa [P9] using h) h)
theorem Mg {id:Nat}{a:Act}{w:World}(hd:RD rd (.region id ops true)) (hQ:∀a w,¬Q .outgrown a w) (hm:P.follows .mixedOrders=true)
  (h:wpAny P .any ops Q ops.size (Array.replicate ops.size false) a { w with drawn:=w.drawn+1}):(Code.region id ops true).wpIn (FF rd) 0 P Q a w:=
 wpIn_region_any hm (RK hQ (hd.imp (λx=>x) λh=>by simpa [P9] using h) _ _ _ _ h)
end
def W (P:Program) (ex:List (Nat×AP)) (R:AP):List Code→AP→AP
 |[],N=>N
 |c::cs,N=>λa w=>∀rd,RD rd c→c.wpIn (FF rd) 0 P (Qx ex R (W P ex R cs N)) a w
section
variable {P:Program}{ex:List (Nat×AP)}{R N:AP}{cs:List Code}{a:Act}{w:World}
theorem RD.seq {rd:Option Nat}{x y:Code}(h:RD rd (.seq x y)):RD rd x∧RD rd y:=
 ⟨h.imp id λh=>by simp only[P9,Bool.and_eq_true] at h;exact h.1,h.imp id λh=>by simp only[P9,Bool.and_eq_true] at h;exact h.2⟩
theorem RD.cond {rd:Option Nat}{X:Operand}{x y:Code}(h:RD rd (.cond X x y)):RD rd x∧RD rd y:=
 ⟨h.imp id λh=>by simp only[P9,Bool.and_eq_true] at h;exact h.1,h.imp id λh=>by simp only[P9,Bool.and_eq_true] at h;exact h.2⟩
theorem RD.block {rd:Option Nat}{i:Nat}{c:Code}(h:RD rd (.block i c)):RD rd c:=h
theorem RD.loop {rd:Option Nat}{c:Code}(h:RD rd (.loop c)):RD rd c:=h
theorem Jh {ex:List (Nat×AP)}{R N:AP}:∀a w,¬(Qx ex R N) .outgrown a w:=λ_ _ h=>h
theorem Wy {x y:Code}(h:W P ex R (x::y::cs) N a w):W P ex R (.seq x y::cs) N a w:=by
 intro rd hd
 refine wpIn_seq (wpIn_mono (h rd hd.seq.1) λe a' w' q=>?_)
 cases e with
 |normal=>exact q rd hd.seq.2
 |_=>exact q
theorem Vc (h:W P ex R cs N a w):W P ex R (.skip::cs) N a w:=λ_ _=>wpIn_skip h
theorem Wz (h:R a w):W P ex R (.ret::cs) N a w:=λ_ _=>wpIn_ret h
theorem R5 {i:Nat}{k:AP}(hk:Ud ex i=some k) (h:k a w):W P ex R (.exit i::cs) N a w:=by
 refine λ_ _=>wpIn_exit ?_
 simp only[Qx,hk]
 exact h
theorem YY {n m X b}{x y:Code}(hf:Fr n a m) (hx:BG m X=some (.bool b)) (h1:b=true→W P ex R (x::cs) N a w) (h2:b=false→W P ex R (y::cs) N a w):
  W P ex R (.cond X x y::cs) N a w:=λrd hd=>wpIn_cond_split (hf.eval hx) (λe=>h1 e rd hd.cond.1) λe=>h2 e rd hd.cond.2
theorem W0 {n m X}{x y:Code}(hf:Fr n a m) (hx:BG m X=some (.bool true)) (h1:W P ex R (x::cs) N a w):
  W P ex R (.cond X x y::cs) N a w:=λrd hd=>wpIn_cond_true (hf.eval hx) (h1 rd hd.cond.1)
theorem W1 {n m X}{x y:Code}(hf:Fr n a m) (hx:BG m X=some (.bool false)) (h1:W P ex R (y::cs) N a w):
  W P ex R (.cond X x y::cs) N a w:=λrd hd=>wpIn_cond_false (hf.eval hx) (h1 rd hd.cond.2)
theorem PP {i:Nat}{c:Code}(I:AP) (h1:W P ((i,I)::ex) R [c] I a w) (h2:∀a w,I a w→W P ex R cs N a w):W P ex R (.block i c::cs) N a w:=by
 intro rd hd
 refine wpIn_block (wpIn_mono (h1 rd hd.block) λe a' w' q=>?_)
 cases e with
 |exit j=>
  simp only[Exit.inBlock,Qx,Ud] at q ⊢
  by_cases hj:j=i
  ·subst hj
   rw[if_pos rfl]
   have:Nat.beq j j=true:=Nat.beq_refl j
   rw[this] at q
   exact h2 _ _ q
  ·rw[if_neg hj]
   have:Nat.beq i j=false:=by
    cases hb:Nat.beq i j with
    |false=>rfl
    |true=>exact absurd (Nat.eq_of_beq_eq_true hb).symm hj
   rw[this] at q
   exact q
 |normal=>exact h2 _ _ q
 |_=>exact q
theorem UN {i:Nat}{c:Code}(h:W P ((i,W P ex R cs N)::ex) R [c] (W P ex R cs N) a w):W P ex R (.block i c::cs) N a w:=PP _ h λ_ _ x=>x
theorem Vd {N':AP}(h:W P ex R cs N a w) (hn:∀a w,N a w→N' a w):W P ex R cs N' a w:=by
 induction cs generalizing a w with
 |nil=>exact hn _ _ h
 |cons c cs ih=>
  intro rd hd
  refine wpIn_mono (h rd hd) λe a' w' q=>?_
  cases e with
  |normal=>exact ih q
  |_=>exact q
theorem W2 {c:Code}(I:AP) (h1:W P ex R [c] I a w) (h2:∀a w,I a w→W P ex R cs N a w):W P ex R (c::cs) N a w:=by
 intro rd hd
 refine wpIn_mono (h1 rd hd) λe a' w' q=>?_
 cases e with
 |normal=>exact h2 _ _ q
 |_=>exact q
theorem Ve {c:Code}(I:Nat→AP) (T i₀:Nat) (h0:I i₀ a w) (hT:∀i a w,I i a w→i≤T)
  (round:∀i a w,I i a w→W P ex R [c] (I (i+1)) a w):W P ex R (.loop c::cs) N a w:=by
 intro rd hd
 refine wpIn_loop_ghost (λk a w=>∃i,I i a w∧k=T-i+1) (T-i₀+1) ⟨i₀,h0,rfl⟩ ?_
 rintro n a w ⟨i,hI,rfl⟩
 refine wpIn_mono (round i a w hI rd hd.loop) λe a' w' q=>?_
 cases e with
 |normal=>
  have h1:=hT _ _ _ hI
  have q':I (i+1) a' w':=q
  have h2:=hT _ _ _ q'
  exact⟨_,by omega,i+1,q',rfl⟩
 |exit id=>exact q
 |goto l=>exact q
 |ret=>exact q
 |panic ch=>exact q
 |outgrown=>exact q
end
theorem Hu {P:Program}{ops:Array Oper}{C:World→Prop}{K:Act→Prop}{Q:Exit→Act→World→Prop}(hQ:∀a w,C w→K a→Q .normal a w):
  ∀(l:List Oper) (a:Act) (w:World),C w→wpQuiet P ops C K l a→wpList P ops Q l a w
 |[],a,w,hw,h=>hQ a w hw h
 |o::rest,a,w,hw,h=>by
  unfold wpQuiet at h
  unfold wpList
  split
  ·rename_i hg
   rw[if_pos hg] at h
   exact .inl (Oper.wp_of_quiet hw (λa' w' hw' hK=>Hu hQ rest a' w' hw' hK) h)
  ·rename_i hg
   rw[if_neg hg] at h
   exact Hu hQ rest _ w hw h
def Sg (P:Program) (l:List Oper) (draw:Bool):Prop:=draw=false∨(P.follows .mixedOrders=true∧Region.lexB .any l.toArray=true)
theorem Pf {P:Program}{C:World→Prop}{l:List Oper}{id:Nat}{draw:Bool}{Q:Exit→Act→World→Prop}{a:Act}{w:World}{rd:Option Nat}(hrd:RD rd (.region id l.toArray draw)) (hQ:∀a w,¬Q .outgrown a w) (hr:Sg P l draw) (hw:C w) (hd:∀w,C w→C { w with drawn:=w.drawn+1})
  (h:wpQuiet P l.toArray C (λa'=>∀w',C w'→Q .normal a' w') l a):(Code.region id l.toArray draw).wpIn (FF rd) 0 P Q a w:=by
 rcases hr with rfl|⟨hm,hB⟩
 ·exact QH hrd hQ (Hu (λa w hw hK=>hK w hw) l a w hw h)
 ·cases draw with
  |false=>exact QH hrd hQ (Hu (λa w hw hK=>hK w hw) l a w hw h)
  |true=>
   simp only[Region.lexB,Bool.and_eq_true] at hB
   refine Mg hrd hQ hm (wpAny_of_quiet (Q:=λa'=>∀w',C w'→Q .normal a' w') (λ_ w' hw' h=>h w' hw') _ _ _ _ (hd w hw) ?_)
   have:=wpAnyQ_lex (C:=C) (md:= .any) hB.1 l 0 (Array.replicate l.toArray.size false) a (by simp) (by simpa using hB.2) h
   simpa using this
theorem Wd.drew {B h w}(k:Wd B h w):Wd B h { w with drawn:=w.drawn+1}:=⟨k.heap,k.os,k.tape,k.out⟩
section
variable {P:Program}{ex:List (Nat×AP)}{R N:AP}{cs:List Code}{a:Act}{w:World}{B:World}{h:Ad}{l:List Oper}{id:Nat}{draw:Bool}{S:Nat→Prop}{L:List HP}
theorem YV (hr:Sg P l draw) (hw:Wd B h w) (k:wpQuiet P l.toArray (Wd B h) (λa'=>∀w',Wd B h w'→W P ex R cs N a' w') l a):W P ex R (.region id l.toArray draw::cs) N a w:=
 λ_ hd=>Pf hd Jh hr hw (λ_=>Wd.drew) k
theorem YX (hr:Sg P l draw) (hw:Wd B h w) (hs:St S L h) (k:wpQuiet P l.toArray (Cl B h) (λa'=>∀w' h',Wd B h' w'→St S L h'→BO S h S h'→W P ex R cs N a' w') l a):W P ex R (.region id l.toArray draw::cs) N a w:=by
 intro rd hd
 refine Pf (C:=Cl B h) hd Jh hr ⟨h,hw,Ap.refl h⟩ (λw ⟨h',k1,k2⟩=>⟨h',k1.drew,k2⟩) ?_
 refine Qt l.length (λa'=>∀w' h',Wd B h' w'→St S L h'→BO S h S h'→W P ex R cs N a' w') (by simpa using k) λa' ha=>?_
 simp only[List.drop_length]
 exact λw' ⟨h',k1,k2⟩=>ha w' h' k1 (k2.st hs) (k2.ext hs.1)
theorem YW (k:wpList P l.toArray (Qx ex R (W P ex R cs N)) l a w):W P ex R (.region id l.toArray false::cs) N a w:=λ_ hd=>QH hd Jh k
end
theorem Xg {P:Program}{ops:Array Oper}{ex:List (Nat×AP)}{R N:AP}{a:Act}{w:World}(h:N a w):wpList P ops (Qx ex R N) [] a w:=h
theorem Lm {P:Program}{ops:Array Oper}{Q:Exit→Act→World→Prop}:∀(k:Nat) (l:List Oper) (a:Act) (w:World),
  wpList P ops (Exit.then (wpList P ops Q (l.drop k)) Q) (l.take k) a w→wpList P ops Q l a w
 |0,l,a,w,h=>by simpa [wpList,Exit.then] using h
 |k+1,[],a,w,h=>by simpa [wpList,Exit.then] using h
 |k+1,o::l,a,w,h=>by
  simp only[List.take_succ_cons,List.drop_succ_cons] at h
  unfold wpList at h ⊢
  split
  ·rename_i hg
   rw[if_pos hg] at h
   rcases h with h1|⟨h1,a0,w0,h2⟩
   ·refine .inl ?_
    unfold Oper.wp at h1 ⊢
    generalize (execOp a.eval o).run P w=r at h1
    cases r with
    |ok nx w'=>
     cases nx<;>simp only[Oper.upon] at h1 ⊢
     case value v=>exact Lm k l _ _ h1
     case skip=>exact Lm k l _ _ h1
     case defer d=>exact Lm k l _ _ h1
     case enter f args=>
      refine h1.mono λe w'' he=>?_
      cases e with
      |returned v=>exact Lm k l _ _ he
      |panicked c=>exact he
      |outgrown=>obtain⟨a0,w0,h0⟩:=he;exact⟨a0,w0,h0⟩
     case row r args=>obtain h1:=h1;exact Rows.mono h1 λv w'' hv=>Lm k l _ _ hv
    |halt x w'=>cases x<;>simp only[Oper.upon] at h1 ⊢;exact h1
   ·exact .inr ⟨h1,a0,w0,h2⟩
  ·rename_i hg
   rw[if_neg hg] at h
   exact Lm k l _ _ h
theorem l_q {P:Program}{ops:Array Oper}{Q:Exit→Act→World→Prop}{l:List Oper}{a:Act}{w B:World}{h:Ad}(k:Nat) (hw:Wd B h w)
  (k1:wpQuiet P ops (Wd B h) (λa'=>∀w',Wd B h w'→wpList P ops Q (l.drop k) a' w') (l.take k) a):wpList P ops Q l a w:=
 Lm k l a w (Hu (Q:=Exit.then (wpList P ops Q (l.drop k)) Q) (λ_ w hw hK=>hK w hw) (l.take k) a w hw k1)
def BP (P:Program) (f:FuncId) (args:Array Value) (S:Nat→Prop) (h:Ad) (post:Value→(Nat→Prop)→Ad→Prop):Prop:=
 ∀B w,Wd B h w→Calls P f args w λe w'=>∃v S' h',e= .returned v∧Wd B h' w'∧BO S h S' h'∧post v S' h'
theorem BP.mono {P f args S h}{post post':Value→(Nat→Prop)→Ad→Prop}(k:BP P f args S h post) (hp:∀v S' h',BO S h S' h'→post v S' h'→post' v S' h'):BP P f args S h post':=
 λB w hw=>(k B w hw).mono λ_ _ ⟨v,S',h',h1,h2,h3,h4⟩=>⟨v,S',h',h1,h2,h3,hp v S' h' h3 h4⟩
def QW:Nat→List Value→List (Nat×Value)
 |_,[]=>[]
 |i,v::r=>(i,v)::QW (i+1) r
theorem Q0:∀(l:List Value) (k i:Nat) (v:Value),lk (QW k l) i=some v→k≤i∧l[i-k]? =some v
 |[],k,i,v,h=>by simp [QW,lk] at h
 |u::r,k,i,v,h=>by
  simp only[QW,lk] at h
  cases hb:Nat.beq k i with
  |true=>
   rw[hb] at h
   have:=Nat.eq_of_beq_eq_true hb
   subst this
   simp only[cond_true,Option.some.injEq] at h
   exact⟨Nat.le_refl _,by simpa using h⟩
  |false=>
   rw[hb] at h
   simp only[cond_false] at h
   obtain⟨h1,h2⟩:=Q0 r (k+1) i v h
   refine⟨by omega,?_⟩
   have:i-k=(i-(k+1))+1:=by omega
   rw[this];simpa using h2
theorem Fr.args {n:Nat}{l:List Value}(h:l.length≤n):Fr (n,[]) ⟨l.toArray++Array.replicate (n-l.toArray.size) undef,[]⟩ (QW 0 l):=by
 refine⟨rfl,by simp;omega,λi v hi=>?_⟩
 obtain⟨_,h2⟩:=Q0 l 0 i v hi
 have hlt:i<l.length:=by have:=(List.getElem?_eq_some_iff.1 h2).1;omega
 simp only[Nat.sub_zero] at h2
 rw[Array.getElem?_append_left (by simpa using hlt)]
 simpa using h2
def Mx (Ds:List Nat):List Deferred:=Ds.map λD=>{ target:= .collected D,args:= #[]}
def UI (Ds:List Nat):HP where
 holds:=λ_ F h=>Ds.Nodup∧(∀b,F b↔b∈Ds)∧∀D,D∈Ds→h[D]? =some (.deferred (some []))
 loc:=λ⟨k1,k2,k3⟩ _ e=>⟨k1,k2,λD hD=>(e D (.inr ((k2 D).2 hD))).trans (k3 D hD)⟩
def Rt (P:Program) (fn:Func) (B:World) (S:Nat→Prop) (h:Ad) (post:Value→(Nat→Prop)→Ad→Prop):AP:=λa w=>
 ∃Ds:List Nat,a.defers=Mx Ds∧Ds.Nodup∧(∀D,D∈Ds→w.heap[D]? =some (.deferred (some [])))∧
  ∀w2:World,w2.os=w.os→w2.tape=w.tape→w2.output=w.output→w2.heap.size=w.heap.size→(∀b,b∉Ds→w2.heap[b]? =w.heap[b]?)→
   ∃v,(results fn a.tmps).run P w2= .ok v w2∧∃S' h',Wd B h' w2∧BO S h S' h'∧post v S' h'
theorem ON {w w2:World}(h1:w2.heap.size=w.heap.size) (h2:∀b,b∉([]:List Nat)→w2.heap[b]? =w.heap[b]?):w2.heap=w.heap:=by
 apply Array.ext h1
 intro i hi1 hi2
 have:=h2 i List.not_mem_nil
 rw[Array.getElem?_eq_getElem hi1,Array.getElem?_eq_getElem hi2] at this
 exact Option.some.inj this
theorem UB {P:Program}{fn:Func}{B:World}{S:Nat→Prop}{h:Ad}{post:Value→(Nat→Prop)→Ad→Prop}{a:Act}{w:World}{v:Value}{S':Nat→Prop}{h':Ad}(hd:a.defers=[]) (hv:∀w:World,Wd B h' w→(results fn a.tmps).run P w= .ok v w) (hw:Wd B h' w) (e:BO S h S' h') (k:post v S' h'):Rt P fn B S h post a w:=
 ⟨[],hd,List.nodup_nil,λD hD=>(by cases hD),λw2 h1 h2 h3 h4 h5=>by
  have he:=ON h4 h5
  have hw2:Wd B h' w2:=⟨he.trans hw.heap,h1.trans hw.os,h2.trans hw.tape,h3.trans hw.out⟩
  exact⟨v,hv w2 hw2,S',h',hw2,e,k⟩⟩
theorem Q1 {P:Program}{fn:Func}{tmps:Array Value}{R:Ending→World→Prop}:∀(Ds:List Nat) (w:World),Ds.Nodup→(∀D,D∈Ds→w.heap[D]? =some (.deferred (some [])))→
  (∀w2:World,w2.os=w.os→w2.tape=w.tape→w2.output=w.output→w2.heap.size=w.heap.size→(∀b,b∉Ds→w2.heap[b]? =w.heap[b]?)→∃v,(results fn tmps).run P w2= .ok v w2∧R (.returned v) w2)→
  LeavesInM Fence.wide 0 P fn tmps R (Mx Ds) .returning w
 |[],w,_,_,k=>by
  obtain⟨v,h1,h2⟩:=k w rfl rfl rfl rfl λ_ _=>rfl
  exact⟨v,h1,h2⟩
 |D::Ds,w,hn,hD,k=>by
  obtain⟨hn1,hn2⟩:=List.nodup_cons.1 hn
  have hd:=hD D (List.mem_cons_self ..)
  have hsz:(w.putObj D (.deferred none)).heap.size=w.heap.size:=by simp [World.putObj]
  refine⟨by simp,.inl ⟨D,_,rfl,run_takeDeferred hd,Q1 Ds _ hn2 (λD' hD'=>?_) λw2 h1 h2 h3 h4 h5=>k w2 h1 h2 h3 (h4.trans hsz) λb hb=>?_⟩⟩
  ·rw[World.putObj_heap_other (λe=>hn1 (by rw[←e];exact hD'))]
   exact hD D' (List.mem_cons_of_mem _ hD')
  ·rw[h5 b λh=>hb (List.mem_cons_of_mem _ h),World.putObj_heap_other (λe=>hb (by rw[e];exact List.mem_cons_self ..))]
theorem BP.intro {P f fn c l S h post}(n:Nat) (hf:P.funcs[f]? =some fn) (hb:fn.body=some c) (hn:fn.ntmps=n) (hl:l.length≤n)
  (k:∀B w a,Wd B h w→Fr (n,[]) a (QW 0 l)→W P [] (Rt P fn B S h post) [c] (Rt P fn B S h post) a w):BP P f l.toArray S h post:=by
 intro B w hw
 subst hn
 refine(callsIn_wide (n:=0)).1 (callsIn_of_wp_marks hf hb trivial (wpIn_mono (k B w _ hw (Fr.args hl) none (.inl rfl)) λe a' w' q=>?_))
 have fin:Rt P fn B S h post a' w'→LeavesInM Fence.wide 0 P fn a'.tmps (λe w'=>∃v S' h',e= .returned v∧Wd B h' w'∧BO S h S' h'∧post v S' h') a'.defers .returning w':=by
  rintro⟨Ds,h1,h2,h3,h4⟩
  rw[h1]
  refine Q1 Ds w' h2 h3 λw2 q1 q2 q3 q4 q5=>?_
  obtain⟨v,r1,S',h',r2,r3,r4⟩:=h4 w2 q1 q2 q3 q4 q5
  exact⟨v,r1,v,S',h',rfl,r2,r3,r4⟩
 cases e with
 |normal=>exact fin q
 |ret=>exact fin q
 |exit i=>simp only[Qx,Ud] at q
 |goto l=>exact q.elim
 |panic c=>exact q.elim
 |outgrown=>exact q.elim
section
variable {P:Program}{fn:Func}{B:World}{S S':Nat→Prop}{h h':Ad}{post:Value→(Nat→Prop)→Ad→Prop}{n:FN}{a:Act}{m:List (Nat×Value)}{w:World}
theorem rt1 {k:Nat}{t v}(hf:Fr (k,[]) a m) (hr:fn.results= #[.tmp t]) (hv:lk m t=some v) (hw:Wd B h' w) (e:BO S h S' h') (k:post v S' h'):Rt P fn B S h post a w:=by
 refine UB hf.dfr (λw _=>?_) hw e k
 rw[results_tmp hr]
 have:=hf.eval (X:= .tmp t) hv
 simp only[Act.eval] at this
 rw[this]
end
theorem RB {n:FN}{a:Act}{m:List (Nat×Value)}(hf:Fr n a m) {xs:Array Operand}{args:List Value}(hxs:xs.toList.mapM (BG m)=some args):xs.map a.eval=args.toArray:=by
 obtain⟨l⟩:=xs
 simp only at hxs
 have:l.map a.eval=args:=by
  induction l generalizing args with
  |nil=>simp at hxs;subst hxs;rfl
  |cons x l ih=>
   simp only[List.mapM_cons,Option.bind_eq_bind,Option.bind_eq_some_iff] at hxs
   obtain⟨y,hy,ys,hys,hxy⟩:=hxs
   simp only[Option.pure_def,Option.some.injEq] at hxy
   subst hxy
   simp only[List.map_cons,hf.eval hy,ih hys]
 rw[←this];simp
def Am (P:Program) (f:FuncId):Bool:=
 match P.funcs[f]? with
 |some fn=> !(fn.name== "runtime.NumGoroutine")&&fn.body.isSome
 |none=>false
theorem Pd {P:Program}{n:FN}{a:Act}{m:List (Nat×Value)}{w:World}{d:Option Nat}{f:Nat}{ty:TypeId}{pos:String}{af:Array Edge}{X:Operand}{xs:Array Operand}{tys:Array TypeId}
  {args vs:List Value} {first cap:Array Value}
  (hf:Fr n a m) (hX:BG m X=some (.func (.func f) first cap)) (hxs:xs.toList.mapM (BG m)=some args) (hvs:first.toList++args++cap.toList=vs) (hcb:Am P f=true):
  (execOp a.eval ⟨d,.call ⟨.value X,xs,tys⟩,ty,pos,af,none⟩).run P w= .ok (.enter f vs.toArray) w:=by
 have hv:first++args.toArray++cap=vs.toArray:=by
  rw[←hvs];apply Array.ext';simp
 unfold Am at hcb
 split at hcb
 ·rename_i fn hfn
  simp only[Bool.and_eq_true,Bool.not_eq_true'] at hcb
  have hn:¬fn.name= "runtime.NumGoroutine" :=by simpa using hcb.1
  have hb:¬fn.body=none:=by intro h0;rw[h0] at hcb;simp at hcb
  simp only[execOp,resolve,hf.eval hX,Deferred.ofValue,RB hf hxs]
  simp [invoke,callFunc,hfn,hn,hb,hv]
 ·cases hcb
theorem Sx {P:Program}{ops:Array Oper}{Q:Exit→Act→World→Prop}{n:FN}{a:Act}{m:List (Nat×Value)}{rest:List Oper}{d f:Nat}{ty:TypeId}{pos:String}{af:Array Edge}{X:Operand}{xs:Array Operand}{tys:Array TypeId}
  {args vs:List Value} {first cap:Array Value} {S h B w} {post:Value→(Nat→Prop)→Ad→Prop}
  (hf:Fr n a m) (hX:BG m X=some (.func (.func f) first cap)) (hxs:xs.toList.mapM (BG m)=some args) (hvs:first.toList++args++cap.toList=vs) (hcb:Am P f=true) (hd:Nat.blt d n.1=true)
  (hw:Wd B h w) (hc:BP P f vs.toArray S h post)
  (k:∀v a w S' h',Fr n a ((d,v)::m)→Wd B h' w→BO S h S' h'→post v S' h'→wpList P ops Q rest a w):
  wpList P ops Q (⟨some d,.call ⟨.value X,xs,tys⟩,ty,pos,af,none⟩::rest) a w:=by
 refine wpList_plain rfl λK hK=>?_
 unfold Oper.wp
 rw[Pd hf hX hxs hvs hcb]
 refine(hc B w hw).mono λe w' ⟨v,S',h',h1,h2,h3,h4⟩=>?_
 subst h1
 exact hK _ _ (k v _ w' S' h' (hf.put hd v) h2 h3 h4)
theorem Vr {P:Program}{ops:Array Oper}{Q:Act→Prop}{n:FN}{a:Act}{m:List (Nat×Value)}{rest:List Oper}{d f:Nat}{ty:TypeId}{pos:String}{af:Array Edge}{X:Operand}{xs:Array Operand}{tys:Array TypeId}
  {args vs:List Value} {first cap:Array Value} {h B} {v:Value}
  (hf:Fr n a m) (hX:BG m X=some (.func (.func f) first cap)) (hxs:xs.toList.mapM (BG m)=some args) (hvs:first.toList++args++cap.toList=vs) (hcb:Am P f=true) (hd:Nat.blt d n.1=true)
  (hc:∀h',Ap h h'→BP P f vs.toArray (λb=>b<h'.size) h' (λu _ _=>u=v))
  (k:∀a,Fr n a ((d,v)::m)→wpQuiet P ops (Cl B h) Q rest a):
  wpQuiet P ops (Cl B h) Q (⟨some d,.call ⟨.value X,xs,tys⟩,ty,pos,af,none⟩::rest) a:=by
 unfold wpQuiet
 rw[if_pos (by simp [Region.wanted])]
 refine⟨v,λw ⟨h',hw,o⟩=>?_,k _ (hf.put hd v)⟩
 unfold Oper.quietAt
 rw[Pd hf hX hxs hvs hcb]
 refine⟨rfl,(hc h' o B w hw).mono λen w' ⟨u,S'',h'',h1,h2,h3,h4⟩=>?_⟩
 subst h1;subst h4
 exact⟨rfl,h'',h2,o.trans ⟨h3.siz,λb hb=>h3.same b hb⟩⟩
theorem St.all (h:Ad):St (λb=>b<h.size) [] h:=⟨λ_ x=>x,trivial⟩
end Go.Proofs.YtibidnaedddfdaaGreat
