import Derived.Test.YtabonambpbofgaaGreatMPureR1
namespace Go.Proofs.YtabonambpbofgaaGreat
set_option linter.all false
open Go.RowKit
structure WX (l:A8) (g:A0):Prop where
 pos:0≤g.Z∧g.Z≤l.V
 tgt:0≤g.Aa∧g.Aa≤l.V
 opn:g.Am=true→l.F=5∨l.F=3
def Nx (b:AF) (a:List A0):Prop:=a.length=b.C.length∧∀(k:Nat) l g,b.C[k]? =some l→a[k]? =some g→WX l g
def TK (b:AF):Prop:=∀l∈b.C,(0≤l.V∧l.V≤64)∧0≤l.Ag∧l.Ag≤l.V
def Nx.at_ {b:AF}{a:List A0}(j:Nx b a) {i:Int}{l:A8}{g:A0}(c:ix b.C i=some l) (d:ix a i=some g):WX l g:=j.2 _ _ _ (Er c).2 (Er d).2
def Nx.upd {b:AF}{j:List A0}(p:Nx b j) {i:Int}{l:A8}{g:A0}(d:ix b.C i=some l) (m:WX l g):Nx b (upd j i g):=by
 obtain⟨h0,d⟩:=Er d;refine⟨by rw[Ma];exact p.1,λk n o c a=>?_⟩;unfold Go.Proofs.YtabonambpbofgaaGreat.upd at a;by_cases e:i.toNat=k
 ·rw[e] at d a;rw[d] at c;cases c;rw[Ac1 (by rw[p.1];exact(Aa4.1 d).1)] at a;cases a;exact m
 ·rw[Acw e] at a;exact p.2 k n o c a
def WX.fault {N:Nat}{l:A8}{g a:A0}{k:Int}(m:WX l g) (e:IA N l g k=some a):WX l a:=by
 have d:∀c:Bool,HQ N l g k (Gq N g) c=some a→WX l a:=λc e=>by
  unfold HQ at e;cases c
  ·cases e;exact⟨m.pos,m.tgt,m.opn⟩
  ·by_cases b:l.F=5
   ·rw[Aba b] at e;cases e;exact⟨m.pos,m.tgt,λ_=> .inl b⟩
   ·rw[Aaz b] at e;cases e;exact⟨m.pos,m.tgt,m.opn⟩
 unfold IA at e;cases h0:decide (k=0)<;>rw[h0] at e
 ·cases i:decide (k=1)<;>rw[i] at e
  ·cases j:decide (k=2)<;>rw[j] at e
   ·exact d (decide (k=3)) e
   ·exact d true e
  ·cases e;exact⟨m.pos,m.tgt,m.opn⟩
 ·cases e;exact⟨m.pos,m.tgt,m.opn⟩
def WX.aim {N:Nat}{l:A8}{g a:A0}{t:Int}(c:0≤l.V) (o:WX l g) (e:Je N l g t=some a):WX l a:=by
 obtain⟨x,d,i,n,j⟩:=eV N l g t;have b:a=x:=Aat (e.symm.trans d);have k:a.Am=g.Am:=by
  unfold Je at e;cases m:decide (l.V≠0)<;>rw[m] at e
  ·cases e;rfl
  ·obtain⟨y,_,e⟩:=bd e;cases e;rfl
 exact⟨by rw[b,i];exact o.pos,by rw[b];exact j c o.tgt.1 o.tgt.2,by rw[k];exact o.opn⟩
def WX.move {N:Nat}{l:A8}{g a:A0}(b:(0≤l.V∧l.V≤64)∧0≤l.Ag∧l.Ag≤l.V) (k:WX l g) (e:II N l g=some a):WX l a:=by
 have i:gM N l g=a:=Aat ((cT N l g).symm.trans e);have c:=(pM N l g b.1.2 b.2 k.pos k.tgt).1;rw[i] at c;have d:a.Aa=g.Aa∧a.Am=g.Am:=by
  unfold II at e;cases j:g.Ax<;>rw[j] at e
  ·rw[Aar] at e;obtain⟨_,_,e⟩:=bd e;obtain⟨_,_,e⟩:=bd e;obtain⟨_,_,e⟩:=bd e;obtain⟨_,_,e⟩:=bd e;cases e;exact⟨rfl,rfl⟩
  ·cases e;exact⟨rfl,rfl⟩
 exact⟨c,by rw[d.1];exact k.tgt,by rw[d.2];exact k.opn⟩
def WX.siphon {N:Nat}{l:A8}{g b:A0}{v:Int}(d:WX l g) (e:Hh N l g v=some b):WX l b:=by
 unfold Hh at e;by_cases a:l.F=3
 ·rw[show decide (l.F≠3)=false by simp [a],Aar] at e;cases c:decide (l.Ay≤v)<;>rw[c] at e
  ·cases hd:decide (v≤l.Az)<;>rw[hd] at e<;>cases e
   ·exact⟨d.pos,d.tgt,λ_=> .inr a⟩
   ·exact⟨d.pos,d.tgt,λ_=> .inr a⟩
  ·cases e;exact⟨d.pos,d.tgt,λ_=> .inr a⟩
 ·rw[show decide (l.F≠3)=true by simp [a],Aaq] at e;cases e;exact d
def Tx {N:Nat}{w:AK}(j:TK w.b):∀(n:Nat) (i:Int) {a r:List A0},Nx w.b a→Dm N w n i a=some r→Nx w.b r
 |0,_,_,_,_,e=>by cases e
 |n+1,i,a,r,q,e=>by
  simp only[Dm] at e;cases k:decide (i<(w.b.C.length:Int))<;>rw[k] at e
  ·cases e;exact q
  ·rw[Aaq] at e;obtain⟨l,c,e⟩:=bd e;obtain⟨o,_,e⟩:=bd e;obtain⟨g,m,e⟩:=bd e;obtain⟨p,d,e⟩:=bd e;obtain⟨_,_,e⟩:=bd e;obtain⟨_,_,e⟩:=bd e;exact Tx j n _ (q.upd c ((q.at_ c m).move (j l (Ab3 (Er c).2)) d)) e
def Q3 {N:Nat}{w:AK}(a:TK w.b):∀(n:Nat) (i:Int) {c r:List A0},Nx w.b c→Cz N w (DU N w) n i c=some r→Nx w.b r
 |0,_,_,_,_,e=>by cases e
 |n+1,i,c,r,q,e=>by
  simp only[Cz,Gw] at e;cases k:decide (i<(w.in_.Ac.length:Int))<;>rw[k] at e
  ·exact Tx a N 0 q e
  ·rw[Aaq] at e;obtain⟨x,_,e⟩:=bd e;obtain⟨y,_,e⟩:=bd e;cases y with
   |false=>exact Q3 a n _ q e
   |true=>
    rw[Aaq] at e;obtain⟨l,d,e⟩:=bd e;obtain⟨o,_,e⟩:=bd e;obtain⟨g,m,e⟩:=bd e;obtain⟨p,j,e⟩:=bd e;obtain⟨_,_,e⟩:=bd e;obtain⟨_,_,e⟩:=bd e;exact Q3 a n _ (q.upd d ((q.at_ d m).aim (a l (Ab3 (Er d).2)).1.1 j)) e
def Q4 {N:Nat}{w:AK}(a:TK w.b):∀(n:Nat) (i:Int) {c r:List A0},Nx w.b c→C0 N w (DV N w) n i c=some r→Nx w.b r
 |0,_,_,_,_,e=>by cases e
 |n+1,i,c,r,q,e=>by
  simp only[C0,Gx] at e;cases k:decide (i<(w.in_.Ab.length:Int))<;>rw[k] at e
  ·exact Q3 a N 0 q e
  ·rw[Aaq] at e;obtain⟨x,_,e⟩:=bd e;obtain⟨y,_,e⟩:=bd e;cases y with
   |false=>exact Q4 a n _ q e
   |true=>
    rw[Aaq] at e;obtain⟨l,j,e⟩:=bd e;obtain⟨o,_,e⟩:=bd e;obtain⟨g,m,e⟩:=bd e;obtain⟨p,d,e⟩:=bd e;obtain⟨_,_,e⟩:=bd e;obtain⟨_,_,e⟩:=bd e;exact Q4 a n _ (q.upd j ((q.at_ j m).fault d)) e
def Uu {N:Nat}{w:AK}{y:List (List Int)×List AV}{o:List (List Int)}{j:List Int}:∀(n:Nat) (i:Int) {a:List A0}{r:List (List Int)×List AV×List A0×List Int},Nx w.b a→Cd N w y o j n i a=some r→Nx w.b r.2.2.1
 |0,_,_,_,_,e=>by cases e
 |n+1,i,a,r,t,e=>by
  simp only[Cd,Ff] at e;cases k:decide (i<(w.b.C.length:Int))<;>rw[k] at e
  ·cases e;exact t
  ·rw[Aaq] at e;obtain⟨l,d,e⟩:=bd e;cases m:decide (l.F=3)<;>rw[m] at e
   ·exact Uu n _ t e
   ·rw[Aaq] at e;obtain⟨q,_,e⟩:=bd e;obtain⟨g,p,e⟩:=bd e;obtain⟨_,_,e⟩:=bd e;obtain⟨v,_,e⟩:=bd e;obtain⟨s,c,e⟩:=bd e;obtain⟨_,_,e⟩:=bd e;obtain⟨_,_,e⟩:=bd e;exact Uu n _ (t.upd d ((t.at_ d p).siphon c)) e
def YI {N:Nat}{w:AK}{y:List (List Int)×List AV}:∀(n:Nat) (i:Int) {o:List (List Int)}{a:List Int}{r:List (List Int)×List AV×List A0×List Int},Nx w.b w.s.R→C1 N w y (DH N w y) n i o a=some r→Nx w.b r.2.2.1
 |0,_,_,_,_,_,e=>by cases e
 |n+1,i,o,a,r,d,e=>by
  simp only[C1] at e;cases c:decide (i<(w.b.A.length:Int))<;>rw[c] at e
  ·exact Uu N 0 d e
  ·rw[Aaq] at e
   iterate 12 (replace e:=(bd e).choose_spec.2)
   exact YI n _ d e
def U0 (b:AF) (rem:List Int):Prop:=rem.length=b.A.length∧∀(k:Nat) p m,b.A[k]? =some p→rem[k]? =some m→0≤m∧m≤max 0 (p.S-1)
def U0.upd {b:AF}{rem:List Int}(n:U0 b rem) {i:Int}{p:Ca}{m:Int}(d:ix b.A i=some p) (g:0≤m∧m≤max 0 (p.S-1)):U0 b (upd rem i m):=by
 obtain⟨h0,d⟩:=Er d;refine⟨by rw[Ma];exact n.1,λk j l c a=>?_⟩;unfold Go.Proofs.YtabonambpbofgaaGreat.upd at a;by_cases e:i.toNat=k
 ·rw[e] at d a;rw[d] at c;cases c;rw[Ac1 (by rw[n.1];exact(Aa4.1 d).1)] at a;cases a;exact g
 ·rw[Acw e] at a;exact n.2 k j l c a
def Y5 {N:Nat}(g:18446744073709551616<N) {a:Ca}(hd:0≤a.S∧a.S≤1125899906842624) {v m:Int}{y:Int×Int}(e:JI N a v m=some y):0≤y.2∧y.2≤max 0 (a.S-1):=by
 unfold JI at e;rw[OV g,Aap] at e;unfold uD at e;split at e
 ·rename_i i;obtain⟨_,_,⟨j,k⟩,_⟩:=i;have l:=Int.emod_nonneg (v*a.Y) (show a.S≠0 by omega);have o:=Int.emod_lt_of_pos (v*a.Y) (show 0<a.S by omega);have d:∀b,0≤b→b<a.S→HX N a (v*a.Y/a.S,v*a.Y%a.S,true) b=some y→0≤y.2∧y.2≤max 0 (a.S-1):=λb h0 p e=>by
   unfold HX at e;simp only at e;rw[D5 (n:=v*a.Y%a.S+b) (by omega) (by omega)] at e;by_cases q:v*a.Y%a.S+b<a.S
   ·rw[Aba q,Aaq] at e;cases e;show 0≤v*a.Y%a.S+b∧v*a.Y%a.S+b≤_
    omega
   ·rw[Aaz q,Aar,D5 (n:=v*a.Y%a.S+b-a.S) (by omega) (by omega)] at e;cases e;show 0≤v*a.Y%a.S+b-a.S∧v*a.Y%a.S+b-a.S≤_
    omega
  simp only[Aby,Aar] at e;cases c:(decide (0≤m)&&decide (m<a.S))<;>rw[c] at e
  ·exact d 0 (by omega) (by omega) e
  ·simp only[Aax,Abd] at c;exact d m c.1 c.2 e
 ·simp only[Bool.not_false,Aaq] at e;cases e;show(0:Int)≤0∧(0:Int)≤_
  omega
def Ty {N:Nat}{w:AK}{p:Int}{c:List AC}{kj:List (List Int)→List Int→List AT→List AV→Option (List (List Int)×List Int×List Int×List AT×List AV)}:∀(n:Nat) (i:Int) {o:List (List Int)}{out:List Int}{a:List AT}{b:List AV}{r},DW N w p c kj n i o out a b=some r→∃o out a b,kj o out a b=some r
 |0,_,_,_,_,_,_,e=>by cases e
 |n+1,i,o,out,a,b,r,e=>by
  simp only[DW] at e;cases d:decide (i<(c.length:Int))<;>rw[d] at e
  ·exact⟨_,_,_,_,e⟩
  ·rw[Aaq] at e
   iterate 3 (replace e:=(bd e).choose_spec.2)
   exact Ty n _ e
def T1 {N:Nat}{w:AK}{p:Int}{a:Ca}{o:List (List Int)}{out:List Int}{b:List AT}{c:List AV}{rem:List Int}{r}(e:DG N w p a o out b c rem=some r):r.2.1=rem:=by
 unfold DG at e;obtain⟨_,_,e⟩:=bd e;obtain⟨_,_,e⟩:=bd e;obtain⟨v,_,e⟩:=bd e;cases d:decide (0<BO (v-a.Au))<;>rw[d] at e
 ·cases e;rfl
 ·rw[Aaq] at e;obtain⟨_,_,e⟩:=bd e;obtain⟨_,_,e⟩:=bd e;cases e;rfl
def Ww {N:Nat}(j:18446744073709551616<N) {w:AK}(c:∀p∈w.b.A,Il w.b p) {p:Int}{r}(u:U0 w.b w.s.N) (e:HA N w p=some r):U0 w.b r.2.1:=by
 unfold HA at e;obtain⟨d,a,e⟩:=bd e;obtain⟨_,_,e⟩:=bd e;obtain⟨_,_,e⟩:=bd e;obtain⟨q,_,e⟩:=bd e;obtain⟨o,out,k,l,e⟩:=Ty N 0 e;have hd:=(c _ (Ab3 (Er a).2)).den;unfold Jc at hd;unfold Fh at e;cases m:decide (d.S≠0)<;>rw[m] at e
 ·rw[T1 e];exact u
 ·rw[Aaq] at e;obtain⟨_,_,e⟩:=bd e;obtain⟨_,_,e⟩:=bd e;obtain⟨_,_,e⟩:=bd e;obtain⟨_,_,e⟩:=bd e;obtain⟨y,n,e⟩:=bd e;obtain⟨_,_,e⟩:=bd e;obtain⟨_,_,e⟩:=bd e;obtain⟨_,_,e⟩:=bd e;obtain⟨_,_,e⟩:=bd e;obtain⟨t,_,e⟩:=bd e;have h0:U0 w.b (upd w.s.N p 0):=u.upd a (by omega);have i:∀rem,Ei N w p d o out k l y (DG N w p d) rem=some r→r.2.1=rem:=λrem e=>by
   unfold Ei at e;obtain⟨_,_,e⟩:=bd e;obtain⟨_,_,e⟩:=bd e;exact T1 e
  cases g:decide (y.1≤t)<;>rw[g] at e
  ·rw[i _ e];exact h0
  ·rw[Aaq] at e;obtain⟨_,_,e⟩:=bd e;obtain⟨_,_,e⟩:=bd e;rw[i _ e];exact h0.upd a (Y5 j hd n)
def VY {N:Nat}(j:18446744073709551616<N) {b:AF}(a:∀p∈b.A,Il b p) {in_:By}{s:AN}{y z}:∀(n:Nat) (i:Int) {o:List (List Int)}{c out:List Int}{d:List AT}{g:List AV}{r},U0 b c→E6 N b in_ s y z (E7 N s y z) n i o c out d g=some r→U0 b r.1.N∧r.1.R=z.2.2.1
 |0,_,_,_,_,_,_,_,_,e=>by cases e
 |n+1,i,o,c,out,d,g,r,m,e=>by
  simp only[E6] at e;cases k:decide (i<(b.A.length:Int))<;>rw[k] at e
  ·rw[Aar] at e;unfold E7 at e;obtain⟨_,e⟩:=LX e;cases e;exact⟨m,rfl⟩
  ·rw[Aaq] at e;obtain⟨x,l,e⟩:=bd e;exact VY j a n _ (Ww j (w:=(⟨b,in_,(⟨s.B,o,c,z.2.1,z.2.2.1,y.2.1,out⟩:AN),d,z.2.2.2,g⟩:AK)) a m l) e
def gN {N:Nat}(u:18446744073709551616<N) {b:AF}(m:Ig b) (c:∀p∈b.A,Il b p) (v:TK b) {s:AN}(d:Zd b s) {in_:By}{r}(e:IF N b s in_=some r):U0 b r.1.N∧Nx b r.1.R:=by
 have C:=m.pl;have K:=m.li;have M:=m.own;have a:=d.rg.x;have D:Nx b s.R:=⟨a.gates,λk l g n o=>⟨(d.rg.gts k l g n o).1,(d.rg.gts k l g n o).2,d.opn k l g n o⟩⟩
 unfold IF at e;rw[UD (by omega) (by have:=a.own.len;omega) (λx q=>by have:=(a.own.all x q).len;omega) (by have:=a.rem;omega) (by have:=a.gates;omega) (by have:=a.inn;omega) (by have:=a.out;omega),Aap] at e;obtain⟨_,e⟩:=LX e;obtain⟨t,i,e⟩:=bd e;obtain⟨Q,_,e⟩:=bd e;obtain⟨y,_,e⟩:=bd e;obtain⟨z,j,e⟩:=bd e;have F:Nx b t:=by
  unfold G9 at i;exact Q4 (w:=(⟨b,in_,s,([]:List AT),(List.replicate ((b.A.length:Int)).toNat (0:Int)),([]:List AV)⟩:AK)) v N 0 D i
 have G:Nx b z.2.2.1:=by
  unfold Fi at j;obtain⟨_,_,j⟩:=bd j;exact YI (w:=(⟨b,in_,(⟨s.B,y.1,s.N,s.I,t,y.2.1,s.O⟩:AN),y.2.2,(List.replicate ((b.A.length:Int)).toNat (0:Int)),([]:List AV)⟩:AK)) N 0 F j
 obtain⟨H,J⟩:=VY u c N 0 ⟨a.rem,d.rem⟩ e;exact⟨H,by rw[J];exact G⟩
def To {N:Nat}(p:Ca) (kj:Int→Option Bool) (j:p.An.length≤1000):∀(n:Nat) (s:Int) (k:Nat),0≤s→s+((p.An.length:Int)-k)*1125899906842624≤4611686018427387904→k≤p.An.length→DA N p kj n s (k:Int)=some true→kj (s+(p.An.drop k).sum)=some true∧∀x∈p.An.drop k,0≤x∧x≤1125899906842624
 |0,s,k,h0,l,m,o=>by cases o
 |n+1,s,k,h0,l,m,o=>by
  simp only[DA] at o;rcases Abb k p.An.length with d|d
  ·rw[FW d,Aaq,BB d,Aap,L8,Aap,A9 (by omega)] at o;cases i:TS p.An[k] with
   |false=>rw[i] at o;cases o
   |true=>
    have g:=Ky i;unfold Jc at g;rw[i,Aby,Aar,D5 (n:=s+p.An[k]) (by omega) (by omega)] at o;obtain⟨a,c⟩:=To p kj j n _ (k+1) (by omega) (by omega) (by omega) o;rw[Ade d,Ab4,←Int.add_assoc];refine⟨a,λx b=>?_⟩;rcases Aay.1 b with rfl|b
    ·exact g
    ·exact c x b
  ·rw[Ft d,Aar] at o;rw[Acz d];exact⟨by rw[List.sum_nil,Int.add_zero];exact o,λx g=>by cases g⟩
def Vn {N:Nat}(b:AF) (p:Ca) (a:Int) (kj:Int→Option Bool):∀(n:Nat) (s j:Int),CX N b p a kj n s j=some true→kj a=some true
 |0,_,_,g=>by cases g
 |n+1,s,j,g=>by
  simp only[CX] at g;cases d:decide (j<(p.T.length:Int)) with
  |false=>rw[d] at g;exact g
  |true=>
   rw[d,Aaq] at g;obtain⟨x,_,g⟩:=bd g;obtain⟨c,_,g⟩:=bd g;cases c with
   |true=>cases g
   |false=>exact Vn b p a kj n _ _ g
def Tw (H:Int) (p:Nat):List AC→List Int→List AT
 |[],_=>[]
 |e::es,x=>match e.take x with
  |some y=>(if y.1.sum≤0 then [] else [(⟨H,(p:Int),e.to_,e.way,y.1⟩:AT)])++Tw H p es y.2
  |none=>Tw H p es x
def Zb:List AC→List Int→List Int
 |[],x=>x
 |e::es,x=>match e.take x with
  |some y=>Zb es y.2
  |none=>Zb es x
def R3 (H:Int) (p:Nat):∀(a b:List AC) (x:List Int),Tw H p (a++b) x=Tw H p a x++Tw H p b (Zb a x)
 |[],b,x=>rfl
 |e::a,b,x=>by
  simp only[Aa5,Tw,Zb];cases e.take x with
  |none=>exact R3 H p a b x
  |some y=>simp only;rw[R3 H p a b y.2,Abz]
def Uc:∀(a b:List AC) (x:List Int),Zb (a++b) x=Zb b (Zb a x)
 |[],b,x=>rfl
 |e::a,b,x=>by
  simp only[Aa5,Zb];cases e.take x with
  |none=>exact Uc a b x
  |some y=>exact Uc a b y.2
def R0 {H:Int}{p:Nat}:∀{es:List AC}{x:List Int}(m:AT),m∈Tw H p es x→∃e∈es,m.Be=e.way∧m.M=(p:Int)
 |[],x,m,a=>by cases a
 |e::es,x,m,a=>by
  simp only[Tw] at a;cases g:e.take x with
  |none=>
   rw[g] at a;obtain⟨b,c,d⟩:=R0 (es:=es) m a;exact⟨b,.tail _ c,d⟩
  |some y=>
   rw[g] at a;rcases Abp.1 a with a|a
   ·split at a
    ·cases a
    ·rw[Ab0.1 a];exact⟨e,.head _,rfl,rfl⟩
   ·obtain⟨b,c,d⟩:=R0 (es:=es) m a;exact⟨b,.tail _ c,d⟩
def Mw (b:AF) (p:Nat) (t:E4):Bool:=decide (t.Ap=(p:Int))&&(decide (0≤t.Bh)&&decide (t.Bh<(b.H.length:Int)))&&decide (0<t.Bd)&&(decide (t.E= -1)||((decide (0≤t.E)&&decide (t.E<(b.A.length:Int)))&&decide ((b.A.getD t.E.toNat default).At=(b.A.getD p default).At)))
def Xc (N:Nat) (t:E4):AC:=⟨t.E,0, -3,λy=>D4 N t y⟩
def Md (N:Nat) (b:AF) (p:Nat) (a:List E4):List AC:=(a.filter (Mw b p)).map (Xc N)
def Wf (N:Nat) (b:AF) (p:Nat) {a:List E4}{k:Nat}(c:k<a.length):Md N b p (a.take (k+1))=Md N b p (a.take k)++if Mw b p a[k] then [Xc N a[k]] else []:=by
 unfold Md;rw[Ab9 c,Ac6,Ach];congr 1;cases d:Mw b p a[k]<;>simp [d]
def Tn (N:Nat) (b:AF) (p:Nat) (a:List E4):(Md N b p a).length≤a.length:=by
 unfold Md;rw[Adv];exact List.length_filter_le _ _
def aI {N:Nat}(M:18446744073709551616<N) {w:AK}(Q:w.in_.U.length≤1000) {p:Nat}(v:p<w.b.A.length):I3 N w (p:Int)=some (Md N w.b p w.in_.U):=by
 unfold I3;obtain⟨l,C,e⟩:=GO w.in_.U.length (λn i l=>Cf N w (p:Int) (Dk N) n l i) (Dk N) (λk l=>l=Md N w.b p (w.in_.U.take k)) (λn k l q=>by
  simp only[Cf];rw[Ft q];rfl) (λn k l D q=>by
  have F:=Tn N w.b p (w.in_.U.take k);rw[←D,Ab6] at F;rw[Wf N w.b p q,←D];simp only[Cf,Gu];rw[FW q,Aaq,BB q,A9 (by omega)];simp only[Aap,NQ,Gh];generalize w.in_.U[k]=x
  have s:w.b.A.getD p default=w.b.A[p]:=by simp [Ab1,v]
  have c:∀B:Bool,Mw w.b p x=B→∃s',s'=(l++if Mw w.b p x then [Xc N x] else [])∧cond B (chk (HJ (l.length+1) 32) (Cf N w (p:Int) (Dk N) n (l++([(⟨x.E,0,(-3),(λy=>D4 N x y)⟩:AC)]:List AC)) ((k+1:Nat):Int))) (Cf N w (p:Int) (Dk N) n l ((k+1:Nat):Int))=Cf N w (p:Int) (Dk N) n s' ((k+1:Nat):Int):=λB G=>by
   refine⟨_,rfl,?_⟩;rw[G];cases B
   ·simp
   ·rw[Aaq,GI (by omega)];rfl
  unfold Mw at c;by_cases d:x.Ap=(p:Int)
  ·cases m:(decide (0≤x.Bh)&&decide (x.Bh<(w.b.H.length:Int)))
   ·simp [d,Mw,m]
   ·by_cases z:0<x.Bd
    ·by_cases a:x.E= -1
     ·have:=c true (by rw[m];simp [d,z,a]);simpa [d,Mw,m,a,show ¬x.Bd≤0 by omega] using this
     ·cases o:(decide (0≤x.E)&&decide (x.E<(w.b.A.length:Int)))
      ·simp [d,Mw,m,a,o,show ¬x.Bd≤0 by omega]
      ·obtain⟨I,J⟩:=Qa.1 o;obtain⟨y,t⟩:=Df.ix (l:=w.b.A) I (by omega);have u:w.b.A.getD x.E.toNat default=y:=by
        obtain⟨j,K⟩:∃j:Nat,x.E=(j:Int):=⟨x.E.toNat,by omega⟩
        rw[K] at t J ⊢;rw[BB (by omega)] at t;rw[Abx];simpa [Ab1,show j<w.b.A.length by omega] using t
       by_cases g:y.At=(w.b.A[p]).At
       ·have:=c true (by rw[o,m,u,s];simp [d,z,g]);simpa [d,Mw,m,a,o,t,BB v,g,show ¬x.Bd≤0 by omega] using this
       ·have:=c false (by rw[o,u,s];simp [a,g]);simpa [d,Mw,m,a,o,t,BB v,g,show ¬x.Bd≤0 by omega] using this
    ·simp [d,Mw,m,z,show x.Bd≤0 by omega]
  ·simp [d,Mw]) N 0 [] rfl (by omega) (Aaw _)
 rw[Abu] at C;rw[←C];exact e
def aK {N:Nat}(j:18446744073709551616<N) {b:AF}{W:Nat}(c:W≤64) (p:Nat) (d:List E4):XL b W p (Md N b p d):=λe g=>by
 obtain⟨t,i,rfl⟩:=Abm.1 g;have a:=(Ab8.1 i).2;refine⟨iI (by omega) c t,by show(-3:Int)≠ -4;decide,?_,by show(0:Int)=Px _ _ (-3);unfold Px;rw[Aas (by omega),Aav rfl]⟩;show t.E= -1∨(0≤t.E∧t.E<b.A.length)
 unfold Mw at a;simp only[Aax,Abh,Abd] at a;omega
def XF (b:AF) (W p:Nat) (l:List AC):Prop:=∀e∈l,tH b W p e∧0≤e.way
def XF.snoc {b:AF}{W p:Nat}{l:List AC}(g:XF b W p l) {e:AC}(c:tH b W p e) (d:0≤e.way):XF b W p (l++[e]):=λx a=>by
 rcases Abp.1 a with a|a
 ·exact g x a
 ·rw[Ab0.1 a];exact⟨c,d⟩
def cV {N:Nat}(u:18446744073709551616<N) {w:AK}{W:Nat}(Y:W≤64) (hL:w.b.C.length≤1000) (D:∀l∈w.b.C,KA w.b l) (hg:w.s.R.length=w.b.C.length) (Z:w.peaks.length=w.b.A.length) {p:Nat}(hp:p<w.b.A.length):∃l,I4 N w (p:Int)=some l∧l.length≤w.b.C.length∧XF w.b W p l:=by
 unfold I4;obtain⟨l,⟨V,z⟩,e⟩:=GO w.b.C.length (λn i l=>CH N w (p:Int) (Dn N) n l i) (Dn N) (λk l=>l.length≤k∧XF w.b W p l) (λn k l q=>by
  simp only[CH];rw[Ft q];rfl) (λn k l hi q=>by
  obtain⟨V,z⟩:=hi;have g:=D _ (Aa9 q);have G:k<w.s.R.length:=by omega
  have H:p<w.peaks.length:=by omega
  have v:Px w.b p (k:Int)=(w.b.C[k]).Q:=by
   unfold Px;rw[Aav ⟨by omega,by omega⟩,Abx,So q]
  simp only[CH,Hl,EA,Hg];rw[FW q,Aaq,BB q,Aap,A9 (by omega)];simp only[BB G,BB H,Aap];generalize w.b.C[k]=x at g v
  have d:∀(B:Int) (to:Int),(to= -1∨(0≤to∧to<w.b.A.length))→∃s',(s'.length≤k+1∧XF w.b W p s')∧chk (HJ (l.length+([(⟨to,x.Q,(k:Int),(λx=>AJ N B x)⟩:AC)]:List AC).length) 32) (CH N w (p:Int) (Dn N) n (l++([(⟨to,x.Q,(k:Int),(λx=>AJ N B x)⟩:AC)]:List AC)) ((k+1:Nat):Int))=CH N w (p:Int) (Dn N) n s' ((k+1:Nat):Int):=λB to c=>by
   rw[GI (by simp;omega)];exact⟨_,⟨by simp;omega,z.snoc ⟨λy hy=>by obtain⟨t,e,h,_⟩:=QK u Y B y hy;exact⟨t,e,h⟩,by show(k:Int)≠ -4;omega,c,v.symm⟩ (by show 0≤(k:Int);omega)⟩,rfl⟩
  have j:∀i:Int,0≤i→i<w.b.A.length→∃y,ix w.peaks i=some y:=λi h0 h1=>Df.ix h0 (by omega);obtain⟨f0,I⟩:=j x.M g.fr.1 g.fr.2;cases X:(decide (x.M=(p:Int))&&decide (x.F≠4))
  ·rw[Aar];cases J:decide (x.M=(p:Int))
   ·rw[Aar];cases hC:(decide (x.E=(p:Int))&&decide (x.F=4))
    ·exact⟨l,⟨by omega,z⟩,rfl⟩
    ·obtain⟨a,m⟩:=Xg u x f0 w.peaks[p];obtain⟨b,hb⟩:=SP N 0 a;rw[Aaq];simp only[I,Aap];rw[m,Aap,hb,Aap];exact d _ _ (.inr g.fr)
   ·have J:=Acf J;have h4:x.F=4:=by
     rw[Aba J,Bool.true_and] at X;simpa using X
    obtain⟨_,_,_,_,_,c⟩:=g.seep h4;have c:=g.to.resolve_left c;obtain⟨K,o⟩:=j x.E c.1 c.2;obtain⟨a,m⟩:=Xg u x w.peaks[p] K;rw[Aaq];simp only[o,Aap];rw[m,Aap];exact d _ _ g.to
  ·rw[Aaq];cases U:decide (x.E≠ -1)
   ·obtain⟨a,m⟩:=X2 u x w.s.R[k] w.peaks[p] 0;rw[Aar,m,Aap];exact d _ _ g.to
   ·have U:=Acf U;have c:=g.to.resolve_left U;obtain⟨K,o⟩:=j x.E c.1 c.2;obtain⟨a,m⟩:=X2 u x w.s.R[k] w.peaks[p] K;rw[Aaq];simp only[o,Aap];rw[m,Aap];exact d _ _ g.to) N 0 [] ⟨Aa7 _,λe he=>by cases he⟩ (by omega) (Aaw _)
 exact⟨l,e,V,z⟩
def Xy {c:Prop}[Decidable c] {H a t b:Int}{y:List Int}(g:b≠ -3):∀m∈(if c then [] else [(⟨H,a,t,b,y⟩:AT)]),m.Be≠ -3:=λm d=>by
 split at d
 ·cases d
 ·rw[Ab0.1 d];exact g
def ZY (p:Nat) (m:AT):Bool:=decide (m.M=(p:Int))&&decide (m.Be= -3)
def Xa {p:Nat}{l:List AT}(b:∀m∈l,m.Be≠ -3):l.filter (ZY p)=[]:=List.filter_eq_nil_iff.2 λm a=>by unfold ZY;simp [b m a]
def Tm {p q:Nat}(a:q≠p) {l:List AT}(c:∀m∈l,m.M=(q:Int)):l.filter (ZY p)=[]:=List.filter_eq_nil_iff.2 λm b=>by unfold ZY;rw[c m b];simp;omega
def gH {H:Int}{p N:Nat}{b:AF}{a:List E4}{x:List Int}:(Tw H p (Md N b p a) x).filter (ZY p)=Tw H p (Md N b p a) x:=Aeb.2 λm c=>by
 obtain⟨e,d,g,i⟩:=R0 m c;obtain⟨t,_,rfl⟩:=Abm.1 d;unfold ZY;rw[g,i];simp [Xc]
def Ub {p:Nat}:∀{l:List AT}{o:List (List Int)}(c:∀m∈l,m.M=(p:Int)) {j:Nat}(a:p≠j),(Rs o l)[j]? =o[j]?
 |[],_,_,_,_=>rfl
 |m::l,o,c,j,a=>by
  show(Rs (upd o m.M (Ja (o.getD m.M.toNat []) m.W)) l)[j]? =_
  rw[Ub (p:=p) (l:=l) (λq b=>c q (.tail _ b)) a,c m (.head _),JL a]
def T0 {N:Nat}(J:18446744073709551616<N) {w:AK}{H:Int}{W:Nat}(Y:w.s.B=H) (K:W≤64) {p:Nat}(z:p<w.b.A.length) (i:Il w.b w.b.A[p]) {o:List (List Int)}{out:List Int}{j:List AT}{k:List AV}{rem:List Int}{M:Nat}(hM:M≤999999) (C:JY w.b.A.length W o) (h:eZ W out j k M):
  ∃r l,DG N w (p:Int) w.b.A[p] o out j k rem=some r∧r.2.1=rem∧U8 w.b H N W p o out j k r.1 r.2.2.1 r.2.2.2.1 r.2.2.2.2 l∧l.length≤1∧(∀m∈l,m.Be≠ -3)∧∀x,r.1[p]? =some x→x.sum≤(w.b.A[p]).Au:=by
 have q:8000000000000<N:=by omega
 have h1:=h.mv;have h2:=h.sn;have u:=i.cap;unfold Jc at u;have D:w.b.A.getD p default=w.b.A[p]:=by simp [Ab1,z]
 unfold DG;obtain⟨x,Z,d,a⟩:=C.ix z;have aa:=a.mv;have ab:=a.sum0;rw[Z,Aap,Aap,a.total q (by omega),Aap,D5 (n:=x.sum-(w.b.A[p]).Au) (by omega) (by omega)];by_cases v:0<x.sum-(w.b.A[p]).Au
 ·rw[Aba v,Aaq,Hg,Aap];have he:tH w.b W p ⟨(w.b.A[p]).Ao,(w.b.A[p]).Q, -2,λy=>AJ N (x.sum-(w.b.A[p]).Au) y⟩:=⟨λy c=>by obtain⟨t,e,h,_⟩:=QK J K (x.sum-(w.b.A[p]).Au) y c;exact⟨t,e,h⟩,by show(-2:Int)≠ -4;decide,i.down,by show _=Px _ _ (-2);unfold Px;rw[Aas (by omega),Aas (by decide),D]⟩
  obtain⟨r,l,x',t,F,G,g,q3,U,V,X⟩:=Ud q (w:=(⟨w.b,w.in_,(⟨w.s.B,o,rem,w.s.I,w.s.R,w.s.L,out⟩:AN),j,w.peaks,k⟩:AK)) Y (by omega) C z he h.out (by show j.length≤_;omega) (by show k.length≤_;omega);simp only at G g U V;rw[d] at G;cases G;obtain⟨t',e',_,ts⟩:=QK J K (x.sum-(w.b.A[p]).Au) x a;rw[e'] at g;have g:=Aau Prod.fst (Aat g);simp only at g;subst g;rw[F,Aap];refine⟨_,l,rfl,rfl,V,by rw[X];exact Uf,by rw[X];exact Xy (by show(-2:Int)≠ -3;decide),λy c=>?_⟩;have c:r.1[p]? =some y:=c;rw[U,HS (Aa4.1 d).1] at c;rw[←Aat c,(q3.sub a).2.1,ts];omega
 ·rw[Aaz v,Aar];refine⟨_,[],rfl,rfl,U8.nil C h.out,by simp,λm hm=>(by cases hm),λy c=>?_⟩;have c:o[p]? =some y:=c;rw[d] at c;cases c;omega
def Tz {N:Nat}(u:18446744073709551616<N) {w:AK}{H:Int}{W:Nat}(v:w.s.B=H) (C:W≤64) {p:Nat}(i:p<w.b.A.length) (a:Il w.b w.b.A[p]) {o:List (List Int)}{out:List Int}{c:List AT}{d:List AV}{rem:List Int}(y:Int×Int) {M:Nat}(hM:M≤999998) (F:JY w.b.A.length W o) (h:eZ W out c d M):
  ∃r l,Ei N w (p:Int) w.b.A[p] o out c d y (DG N w (p:Int) w.b.A[p]) rem=some r∧r.2.1=rem∧U8 w.b H N W p o out c d r.1 r.2.2.1 r.2.2.2.1 r.2.2.2.2 l∧l.length≤2∧(∀m∈l,m.Be≠ -3)∧∀x,r.1[p]? =some x→x.sum≤(w.b.A[p]).Au:=by
 have j:8000000000000<N:=by omega
 have h1:=h.mv;have h2:=h.sn;have k:w.b.A.getD p default=w.b.A[p]:=by simp [Ab1,i]
 unfold Ei;rw[Hg,Aap];have G:tH w.b W p ⟨(w.b.A[p]).Ao,(w.b.A[p]).Q, -1,λx=>AJ N y.1 x⟩:=⟨λz J=>by obtain⟨t,e,h,_⟩:=QK u C y.1 z J;exact⟨t,e,h⟩,by show(-1:Int)≠ -4;decide,a.down,by show _=Px _ _ (-1);unfold Px;rw[Aas (by omega),Aas (by decide),k]⟩
 obtain⟨r,l,x',t,n,q1,q2,q3,q4,q,D⟩:=Ud j (w:=(⟨w.b,w.in_,(⟨w.s.B,o,rem,w.s.I,w.s.R,w.s.L,out⟩:AN),c,w.peaks,d⟩:AK)) v (by omega) F i G h.out (by show c.length≤_;omega) (by show d.length≤_;omega);have K:l.length≤1:=by rw[D];exact Uf
 have U:=h.next q K;rw[n,Aap];obtain⟨r',V,X,Y,Z,z3,z5,z4⟩:=T0 u v C i a (rem:=rem) (M:=M+1) (by omega) q.ox U;exact⟨r',l++V,X,Y,q.trans Z,by rw[Abi];omega,λm g=>(Abp.1 g).elim (λg=>by rw[D] at g;exact Xy (by show(-1:Int)≠ -3;decide) m g) (z5 m),z4⟩
def cE {N:Nat}(U:8000000000000<N) {w:AK}{H:Int}{W M:Nat}(V:w.s.B=H) (hW:W≤64) {p:Nat}(X:p<w.b.A.length) (Y:JY w.b.A.length W w.s.G) (h:eZ W w.s.O w.moves w.sent M) (hM:M≤900000) (a:List AC) (y:XL w.b W p a) (Z:a.length≤2000) (kj:List (List Int)→List Int→List AT→List AV→Option (List (List Int)×List Int×List Int×List AT×List AV)):
  ∃o out c d l,U8 w.b H N W p w.s.G w.s.O w.moves w.sent o out c d l∧l.length≤a.length∧(∀x,w.s.G[p]? =some x→l=Tw H p a x)∧DW N w (p:Int) a kj N 0 w.s.G w.s.O w.moves w.sent=kj o out c d:=by
 obtain⟨⟨o,out,c,d⟩,⟨l,g,z,u⟩,e⟩:=GO a.length (λn i (s:List (List Int)×List Int×List AT×List AV)=>DW N w (p:Int) a kj n i s.1 s.2.1 s.2.2.1 s.2.2.2) (λs=>kj s.1 s.2.1 s.2.2.1 s.2.2.2) (λk s=>∃l,U8 w.b H N W p w.s.G w.s.O w.moves w.sent s.1 s.2.1 s.2.2.1 s.2.2.2 l∧l.length≤k∧∀x,w.s.G[p]? =some x→l=Tw H p (a.take k) x∧s.1[p]? =some (Zb (a.take k) x)) (λn k s j=>by
  simp only[DW];rw[Ft j];rfl) (λn k s hi j=>by
  obtain⟨o,out,c,d⟩:=s;obtain⟨l,g,z,u⟩:=hi;simp only at u;simp only at g;have F:=h.next g z;have h1:=F.mv;have h2:=F.sn;simp only[DW];rw[FW j,Aaq,A9 (by omega),BB j,Aap,Aap];obtain⟨r,J,m,t,C,v,K,q3,q4,q5,Q⟩:=Ud U (w:=(⟨w.b,w.in_,(⟨w.s.B,o,w.s.N,w.s.I,w.s.R,w.s.L,out⟩:AN),c,w.peaks,d⟩:AK)) V (by omega) g.ox X (y _ (Aa9 j)) g.ol (by show c.length≤_;omega) (by show d.length≤_;omega);have hl:J.length≤1:=by rw[Q];exact Uf
  rw[C,Aap];exact⟨(_,_,_,_),⟨l++J,g.trans q5,by rw[Abi];omega,λx q=>by
   obtain⟨u1,u2⟩:=u x q;have v:o[p]? =some m:=v;have D:Zb (a.take k) x=m:=Aat (u2.symm.trans v);rw[Ab9 j,R3,Uc,←u1,D];have v1:Tw H p [a[k]] m=(if t.sum≤0 then [] else [(⟨H,(p:Int),(a[k]).to_,(a[k]).way,t⟩:AT)]):=by
    simp only[Tw];rw[K];simp
   have v2:Zb [a[k]] m=Ja m t:=by
    simp only[Zb];rw[K]
   rw[v1,v2];refine⟨by rw[Q],?_⟩;show r.1[p]? =_
   rw[q4];exact HS (Aa4.1 v).1 _⟩,rfl⟩) N 0 (w.s.G,w.s.O,w.moves,w.sent) ⟨[],U8.nil Y h.out,Aa7 _,λx q=>⟨rfl,q⟩⟩ (by omega) (Aaw _)
 exact⟨o,out,c,d,l,g,z,λx q=>by have:=(u x q).1;rwa [Abu] at this,e⟩
def cD {N:Nat}(g:18446744073709551616<N) {w:AK}{H:Int}{W M:Nat}(K:w.s.B=H) (n:W≤64) (hL:w.b.C.length≤900) (ht:w.in_.U.length≤1000) (V:∀l∈w.b.C,KA w.b l) (q:∀p∈w.b.A,Il w.b p) (hg:w.s.R.length=w.b.C.length) (X:w.peaks.length=w.b.A.length) (d:w.s.N.length=w.b.A.length) {p:Nat}(c:p<w.b.A.length) (ho:JY w.b.A.length W w.s.G) (h:eZ W w.s.O w.moves w.sent M) (hM:M≤900000):
  ∃r l,HA N w (p:Int)=some r∧r.2.1.length=w.b.A.length∧U8 w.b H N W p w.s.G w.s.O w.moves w.sent r.1 r.2.2.1 r.2.2.2.1 r.2.2.2.2 l∧l.length≤w.in_.U.length+w.b.C.length+2∧(∀x,w.s.G[p]? =some x→l.filter (ZY p)=Tw H p (Md N w.b p w.in_.U) x)∧∀x,r.1[p]? =some x→x.sum≤(w.b.A[p]).Au:=by
 have j:8000000000000<N:=by omega
 have k:=q _ (Aa9 c);have a1:=aI g (w:=w) ht c;have a2:=Tn N w.b p w.in_.U;have a3:=aK g (b:=w.b) n p w.in_.U;generalize Y:Md N w.b p w.in_.U=l1 at a1 a2 a3
 obtain⟨Q,b1,b2,b3⟩:=cV g n (by omega) V hg X c;have Z:XL w.b W p (l1++Q):=λe he=>(Abp.1 he).elim (a3 e) λh=>(b3 e h).1;have ad:(l1++Q).length≤w.in_.U.length+w.b.C.length:=by rw[Abi];omega
 unfold HA;rw[BB c,Aap,a1,Aap,b1,Aap,ZO j _ _ (by omega) (by omega),Aap];obtain⟨o,out,ms,sn,l,i,i2,i3,e⟩:=cE j K n c ho h hM (l1++Q) Z (by omega) (Fh N w (p:Int) w.b.A[p]);have hn:=h.next i i2;rw[e];have hf:∀a:List AT,(∀m∈a,m.Be≠ -3)→∀x,w.s.G[p]? =some x→(l++a).filter (ZY p)=Tw H p l1 x:=λa aa x hx=>by
  rw[Ac6,Xa aa,Ab2,i3 x hx,R3,Ac6,Xa (l:=Tw H p Q _) (λm hm=>by obtain⟨e',ab,h1,_⟩:=R0 m hm;have:=(b3 e' ab).2;omega),Ab2,←Y,gH]
 unfold Fh;cases decide ((w.b.A[p]).S≠0)
 ·obtain⟨r,a,t,u,v,r3,z,D⟩:=T0 g K n c k (rem:=w.s.N) (by omega) i.ox hn;exact⟨r,l++a,t,by rw[u];exact d,i.trans v,by rw[Abi];omega,hf a z,D⟩
 ·have F:p<w.peaks.length:=by omega
  have I:p<w.s.N.length:=by omega
  have J:(upd w.s.N (p:Int) 0).length=w.b.A.length:=by rw[Ma];exact d
  obtain⟨x,hx,ae,ac⟩:=i.ox.ix c;obtain⟨y,hy⟩:=bI g w.b.A[p] w.peaks[p] w.s.N[p];rw[Aaq,BB F,Aap,Aap,BB I,Aap,Aap,hy,Aap,Aap,Aap,hx,Aap,Aap,ac.total j (by omega),Aap];cases decide (y.1≤x.sum)
  ·obtain⟨r,a,t,u,v,r3,z,D⟩:=Tz g K n c k (rem:=upd w.s.N (p:Int) 0) y (by omega) i.ox hn;exact⟨r,l++a,t,by rw[u];exact J,i.trans v,by rw[Abi];omega,hf a z,D⟩
  ·rw[Aaq,BB (show p<(upd w.s.N (p:Int) 0).length by omega),Aap,Aap];obtain⟨r,a,t,u,v,r3,z,D⟩:=Tz g K n c k (rem:=upd (upd w.s.N (p:Int) 0) (p:Int) y.2) y (by omega) i.ox hn;exact⟨r,l++a,t,by rw[u,Ma];exact J,i.trans v,by rw[Abi];omega,hf a z,D⟩
structure YP (N:Nat) (b:AF) (s:AN) (ts:List E4) (o1:List (List Int)) (r:AN×List AT×List Int) (ns:List Int) (o3:List (List Int)) (l:List AT):Prop where
 nl:ns.length=b.A.length
 mlen:r.2.1.length≤100000
 ml2:r.2.1.length≤64+b.A.length*(ts.length+b.C.length+2)
 n0:∀n∈ns,0≤n
 at3:∀(p:Nat) x n,o1[p]? =some x→ns[p]? =some n→o3[p]? =some (Hf (Hf x (v1 b.H.length n)) (Uv b.H.length s.B s.I p))
 ox3:JY b.A.length b.H.length o3
 os3:Fs o3+HK (Ls s.B s.I)≤1125899906842624
 pk:r.2.2=o3.map List.sum
 lv:xK b s.B N b.H.length b.A.length o3 s.O (ZZ s.B b.H.length 0 ns) r.1.G r.1.O r.2.1 (l.filterMap (MF b s.B)) l
 que:r.1.I=Ls s.B s.I++l.filterMap (MF b s.B)
 hour:r.1.B=BO (s.B+1)
 inn:r.1.L=Hf s.L (v1 b.H.length ns.sum)
 tk:∀p,p<b.A.length→∀x,o3[p]? =some x→l.filter (ZY p)=Tw s.B p (Md N b p ts) x
 cap:∀(p:Nat) (hp:p<b.A.length) x,r.1.G[p]? =some x→x.sum≤(b.A[p]).Au
structure xX (N:Nat) (b:AF) (H:Int) (ts:List E4) (o3:List (List Int)) (k:Nat) (o:List (List Int)) (l:List AT):Prop where
 tk:∀p,p<k→∀x,o3[p]? =some x→l.filter (ZY p)=Tw H p (Md N b p ts) x
 hi:∀p,k≤p→l.filter (ZY p)=[]∧o[p]? =o3[p]?
 cap:∀(p:Nat) (hp:p<b.A.length),p<k→∀x,o[p]? =some x→x.sum≤(b.A[p]).Au
def xX.next {N:Nat}{b:AF}{H:Int}{g:List E4}{u:List (List Int)}{k W:Nat}{o i:List (List Int)}{out c:List Int}{v j:List AT}{w n:List AV}{l d:List AT}(I:xX N b H g u k o l) (G:k<b.A.length) (q:U8 b H N W k o out v w i c j n d) (y:∀x,o[k]? =some x→d.filter (ZY k)=Tw H k (Md N b k g) x) (z:∀x,i[k]? =some x→x.sum≤(b.A[k]).Au):xX N b H g u (k+1) i (l++d):=by
 have fr:∀m∈d,m.M=(k:Int):=λm B=>(q.mv m B).fr;refine⟨λp s x a=>?_,λp s=>⟨?_,?_⟩,λp s C x a=>?_⟩
 ·rw[Ac6];by_cases e:p=k
  ·subst e;obtain⟨D,F⟩:=I.hi p (Aa7 _);rw[D,Aa6];exact y x (F.trans a)
  ·rw[Tm (λt=>e t.symm) fr,Ab2];exact I.tk p (by omega) x a
 ·rw[Ac6,(I.hi p (by omega)).1,Tm (by omega) fr];rfl
 ·rw[q.own,Ub fr (by omega)];exact(I.hi p (by omega)).2
 ·by_cases e:p=k
  ·subst e;exact z x a
  ·rw[q.own,Ub fr (λt=>e t.symm)] at a;exact I.cap p s (by omega) x a
def pK (N:Nat) (p:List Int) (h0:∀x∈p,0≤x) (i:Int):∃v,Kl N p i=some v∧(0<v→∃j:Nat,i=(j:Int)∧p[j]? =some v):=by
 unfold Kl;cases b:(decide (i<0)||decide ((p.length:Int)≤i)) with
 |true=>exact⟨0,rfl,λd=>absurd d (by decide)⟩
 |false=>
  simp only[Abk,Abe] at b;obtain⟨j,c,a⟩:=lX (l:=p) (i:=i) (by omega) (by omega);have:=h0 _ (Aa9 a);rw[Aar,c,BB a,Aap,Aap,Aap,Aaz (show ¬p[j]<0 by omega)];exact⟨p[j],rfl,λ_=>⟨j,rfl,Aa1 a⟩⟩
def iH {N W:Nat}(I:8000000000000<N) (J:W≤1000) {p:List Int}(c:PX W p) (fr to n:Int):∃r,Lx N p fr to n=some r∧PX W r∧r.sum=p.sum:=by
 have s:=c.len;unfold Lx;obtain⟨v,A,t⟩:=pK N p c.nn fr;rw[K2 (by omega) _ (by decide),A,Aap,Un];cases y:(((decide (0<min n v)&&decide (0≤to))&&decide (to<(p.length:Int)))&&decide (fr≠to))
 ·exact⟨p,rfl,c,rfl⟩
 ·simp only[Aax,Abd] at y;obtain⟨⟨⟨K,B⟩,C⟩,M⟩:=y;obtain⟨j,D,d⟩:=t (by omega);obtain⟨k,F,a⟩:=lX (l:=p) (i:=to) B C;have g:=(Aa4.1 d).1;have m:=(Aa4.1 d).2;have o:j≠k:=by omega
  have G:=c.mem (Ab3 d);have H:=c.mem (Aa9 a);have b:k<(upd p (j:Int) (v-min n v)).length:=by rw[Ma];exact a
  have u:(upd p (j:Int) (v-min n v))[k]=p[k]:=by
   have:(upd p (j:Int) (v-min n v))[k]? =p[k]? :=JL o _;rw[Aa1 b,Aa1 a] at this;exact Aat this
  rw[Aaq,D,BB g,m];simp only[Aap];rw[D5 (n:=v-min n v) (by omega) (by omega),F,BB b,u];simp only[Aap];rw[Uw N (by omega) (by omega) (by omega) (by omega),Aap];have z:(upd (upd p (j:Int) (v-min n v)) (k:Int) (p[k]+min n v)).sum=p.sum:=by
   have w:(p.set j (v-min n v))[k]'(by simpa using a)=p[k]:=List.getElem_set_ne o _;unfold upd;rw[Abx,Abx,Nh (by simpa using a),Nh g,w,m];omega
  refine⟨_,rfl,⟨by rw[Ma,Ma];exact s,λx q=>?_,by rw[z];exact c.mv⟩,z⟩;rcases Ad5 q with q|rfl
  ·rcases Ad5 q with q|rfl
   ·exact c.nn x q
   ·omega
  ·omega
def gL {N:Nat}(v:8000000000000<N) {w:AK}{W:Nat}(B:W≤1000) (Q:w.in_.Ae.length≤1000) (C:JY w.b.A.length W w.s.G):∃o,FY N w=some o∧JY w.b.A.length W o∧o.map List.sum=w.s.G.map List.sum:=by
 unfold FY;obtain⟨o,⟨D,F⟩,e⟩:=GO w.in_.Ae.length (λn i l=>Cy N w n i l) (λl=>some l) (λ_ l=>JY w.b.A.length W l∧l.map List.sum=w.s.G.map List.sum) (λn k l d=>by
  simp only[Cy];rw[Ft d];rfl) (λn k l a d=>by
  obtain⟨a,c⟩:=a;simp only[Cy,Gv];rw[FW d,Aaq,BB d,A9 (by omega)];simp only[Aap,NQ,Gh,Pz];generalize w.in_.Ae[k]=x
  cases g:(((decide (0≤x.Ap)&&decide (x.Ap<(w.b.A.length:Int)))&&(decide (0≤x.M)&&decide (x.M<(w.b.H.length:Int))))&&(decide (0≤x.E)&&decide (x.E<(w.b.H.length:Int))))
  ·exact⟨l,⟨a,c⟩,rfl⟩
  ·simp only[Aax,Abd] at g;obtain⟨j,I,m⟩:=lX (l:=l) g.1.1.1 (by rw[a.len];exact g.1.1.2);obtain⟨y,J,p,q⟩:=a.ix (k:=j) (by rw[←a.len];exact m);obtain⟨z,K,t,u⟩:=iH v B q x.M x.E x.Bd;rw[Aaq,I];simp only[J,Aap];rw[K,Aap];exact⟨_,⟨a.upd _ t,by rw[←c];exact(show(upd l (j:Int) z).map List.sum=upd (l.map List.sum) (j:Int) y.sum by unfold upd;rw[List.map_set,u]).trans (Vd (by rw[Acd,p];rfl))⟩,rfl⟩) N 0 w.s.G ⟨C,rfl⟩ (by omega) (Aaw _)
 exact⟨o,e,D,F⟩
def Wg (N:Nat) {w w':AK}(a:w.b=w'.b) (c:w.in_=w'.in_) (n:Nat):∀(i:Int) (l:List (List Int)),Cy N w n i l=Cy N w' n i l:=by
 induction n with
 |zero=>intro i l;rfl
 |succ n d=>intro i l;simp only[Cy,Gv,a,c,d]
def aN {N:Nat}(d:8000000000000<N) {b:AF}{s:AN}{in_:By}{W:Nat}(g:W≤1000) (i:in_.Ae.length≤1000) (j:JY b.A.length W s.G):∃o,(∀a:List A0,FY N (⟨b,in_,({ s with R:=a}:AN),([]:List AT),(List.replicate ((b.A.length:Int)).toNat (0:Int)),([]:List AV)⟩:AK)=some o)∧JY b.A.length W o∧Fs o=Fs s.G∧o.map List.sum=s.G.map List.sum:=by
 obtain⟨o,e,k,c⟩:=gL d (w:=(⟨b,in_,s,([]:List AT),[],([]:List AV)⟩:AK)) g i j;refine⟨o,λa=>?_,k,by unfold Fs;rw[c],c⟩;rw[←e];exact Wg N (w:=(⟨b,in_,({ s with R:=a}:AN),([]:List AT),(List.replicate ((b.A.length:Int)).toNat (0:Int)),([]:List AV)⟩:AK)) (w':=(⟨b,in_,s,([]:List AT),[],([]:List AV)⟩:AK)) rfl rfl N 0 s.G
end Go.Proofs.YtabonambpbofgaaGreat
