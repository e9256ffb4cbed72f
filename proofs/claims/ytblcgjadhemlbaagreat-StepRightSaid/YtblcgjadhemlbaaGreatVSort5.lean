import Derived.Test.YtblcgjadhemlbaaGreatVCore26
import Derived.Test.YtblcgjadhemlbaaGreatRows
import Derived.Shelf.GgSortFunc.Whole
import Derived.Shelf.GgSortFunc.Tiny
import Derived.Deep.QuietTactic
import Derived.WalkKit
import Derived.Test.YtblcgjadhemlbaaGreatVSortD
import Derived.Sort.LotA
namespace Go.Proofs.YtblcgjadhemlbaaGreat
set_option linter.all false
open Go.RowKit Go.Shelf
open Go.Proofs.Tryz
def Yw:Ren:={ f:=λx=>match x with|6=>108|10=>113|11=>114|12=>115|13=>116|14=>117|24=>127|25=>112|26=>128|27=>129|28=>130|29=>131|30=>132|31=>133|32=>134|33=>135|34=>136|35=>137|36=>138|37=>139|38=>140|39=>141|n=>n,t:=λx=>match x with|20=>20|26=>101|35=>175|0=>0|37=>177|3=>3|41=>164|44=>183|49=>188|51=>154|4=>4|54=>191|53=>190|58=>88|5=>5|9=>9|60=>196|64=>200|66=>202|67=>114|17=>17|32=>172|33=>173|82=>218|12=>12|75=>211|76=>212|77=>213|78=>214|79=>215|80=>216|n=>n,g:=λx=>have n:=x;n}
def mG:LaysGg.n6 prog Yw:={ mixed:=by kernel_rfl,f6:=func108,f10:=func113,f11:=func114,f12:=func115,f13:=func116,f14:=func117,f24:=func127,f25:=func112,f26:=func128,f27:=func129,f28:=func130,f29:=func131,f30:=func132,f31:=func133,f32:=func134,f33:=func135,f34:=func136,f35:=func137,f36:=func138,f37:=func139,f38:=func140,f39:=func141,t0:=underlying0,a0:=Tryz.isAgg0,z0:=Tryz.sizeOf0,v0:=Tryz.zeroValue0,i0:=by kernel_rfl,t3:=underlying3,a3:=Tryz.isAgg3,z3:=Tryz.sizeOf3,v3:=Tryz.zeroValue3,i3:=by kernel_rfl,t4:=underlying4,a4:=Tryz.isAgg4,z4:=Tryz.sizeOf4,v4:=Tryz.zeroValue4,i4:=by kernel_rfl,t5:=underlying5,a5:=Tryz.isAgg5,z5:=Tryz.sizeOf5,v5:=Tryz.zeroValue5,i5:=by kernel_rfl,t9:=underlying9,a9:=Tryz.isAgg9,z9:=Tryz.sizeOf9,v9:=Tryz.zeroValue9,i9:=by kernel_rfl,t12:=underlying12,a12:=Tryz.isAgg12,z12:=Tryz.sizeOf12,v12:=Tryz.zeroValue12,i12:=by kernel_rfl,t17:=underlying17,a17:=Tryz.isAgg17,z17:=Tryz.sizeOf17,v17:=Tryz.zeroValue17,i17:=by kernel_rfl,t20:=underlying20,a20:=Tryz.isAgg20,z20:=Tryz.sizeOf20,v20:=Tryz.zeroValue20,i20:=by kernel_rfl,t26:=underlying101,a26:=Tryz.isAgg101,z26:=Tryz.sizeOf101,v26:=Tryz.zeroValue101,i26:=by kernel_rfl,t32:=underlying172,a32:=Tryz.isAgg172,z32:=Tryz.sizeOf172,v32:=Tryz.zeroValue172,i32:=by kernel_rfl,t33:=underlying173,a33:=Tryz.isAgg173,z33:=Tryz.sizeOf173,v33:=Tryz.zeroValue173,i33:=by kernel_rfl,t35:=underlying175,a35:=Tryz.isAgg175,z35:=Tryz.sizeOf175,v35:=Tryz.zeroValue175,i35:=by kernel_rfl,t37:=underlying177,a37:=Tryz.isAgg177,z37:=Tryz.sizeOf177,v37:=Tryz.zeroValue177,i37:=by kernel_rfl,t41:=underlying164,a41:=Tryz.isAgg164,z41:=Tryz.sizeOf164,v41:=Tryz.zeroValue164,i41:=by kernel_rfl,t44:=underlying183,a44:=Tryz.isAgg183,z44:=Tryz.sizeOf183,v44:=Tryz.zeroValue183,i44:=by kernel_rfl,t49:=underlying188,a49:=Tryz.isAgg188,z49:=Tryz.sizeOf188,v49:=Tryz.zeroValue188,i49:=by kernel_rfl,t51:=underlying154,a51:=Tryz.isAgg154,z51:=Tryz.sizeOf154,v51:=Tryz.zeroValue154,i51:=by kernel_rfl,t53:=underlying190,a53:=Tryz.isAgg190,z53:=Tryz.sizeOf190,v53:=Tryz.zeroValue190,i53:=by kernel_rfl,t54:=underlying191,a54:=Tryz.isAgg191,z54:=Tryz.sizeOf191,v54:=Tryz.zeroValue191,i54:=by kernel_rfl,t58:=underlying88,a58:=Tryz.isAgg88,z58:=Tryz.sizeOf88,v58:=Tryz.zeroValue88,i58:=by kernel_rfl,t60:=underlying196,a60:=Tryz.isAgg196,z60:=Tryz.sizeOf196,v60:=Tryz.zeroValue196,i60:=by kernel_rfl,t64:=underlying200,a64:=Tryz.isAgg200,z64:=Tryz.sizeOf200,v64:=Tryz.zeroValue200,i64:=by kernel_rfl,t66:=underlying202,a66:=Tryz.isAgg202,z66:=Tryz.sizeOf202,v66:=Tryz.zeroValue202,i66:=by kernel_rfl,t67:=underlying114,a67:=Tryz.isAgg114,z67:=Tryz.sizeOf114,v67:=Tryz.zeroValue114,i67:=by kernel_rfl,t75:=underlying211,a75:=Tryz.isAgg211,z75:=Tryz.sizeOf211,v75:=Tryz.zeroValue211,i75:=by kernel_rfl,t76:=underlying212,a76:=Tryz.isAgg212,z76:=Tryz.sizeOf212,v76:=Tryz.zeroValue212,i76:=by kernel_rfl,t77:=underlying213,a77:=Tryz.isAgg213,z77:=Tryz.sizeOf213,v77:=Tryz.zeroValue213,i77:=by kernel_rfl,t78:=underlying214,a78:=Tryz.isAgg214,z78:=Tryz.sizeOf214,v78:=Tryz.zeroValue214,i78:=by kernel_rfl,t79:=underlying215,a79:=Tryz.isAgg215,z79:=Tryz.sizeOf215,v79:=Tryz.zeroValue215,i79:=by kernel_rfl,t80:=underlying216,a80:=Tryz.isAgg216,z80:=Tryz.sizeOf216,v80:=Tryz.zeroValue216,i80:=by kernel_rfl,t82:=underlying218,a82:=Tryz.isAgg218,z82:=Tryz.sizeOf218,v82:=Tryz.zeroValue218,i82:=by kernel_rfl}
end Go.Proofs.YtblcgjadhemlbaaGreat
namespace Go.Proofs.YtblcgjadhemlbaaGreat
set_option linter.all false
open Go.Shelf Go.RowKit Go.Lib Go.Sort
set_option maxHeartbeats 2000000 in
def UV (l m g off c b n o u a:Nat) (W:World) (G:Nat→Nat) (R:Nat→Int) (z:W.cell? ⟨l,0,none⟩=some (.slice (some ⟨g,off,none⟩) b c)) (A:W.cell? ⟨m,0,none⟩=some (.slice (some ⟨n,o,none⟩) a u))
  (p:∀t,t<b→W.cell? ⟨g,off+t,none⟩=some (.int .i64 (G t:Int))) (s:∀t,t<a→W.cell? ⟨n,o+t,none⟩=some (.int .i64 (R t))) (i j:Nat) (v:i<b) (w:j<b) (x:G i<a) (y:G j<a):
  Calls Tryz.prog 109 #[.int .i64 i,.int .i64 j,.pointer (some ⟨l,0,none⟩),.pointer (some ⟨m,0,none⟩)] W λe w'=>e= .returned (.bool (cond (!decide (R (G i)=R (G j))) (decide (R (G j)<R (G i))) (decide (G i<G j))))∧∃q,w'=W.drewN q:=by
 have B:=p i v
 have C:=p j w
 have D:=s _ x
 have F:=s _ y
 go_enter Tryz.func109,Tryz.ntmps109
 go_wp2
 go_quiet (fail)
 go_wp2
 go_quiet (fail)
 go_wp2
 ·go_quiet (fail)
  go_wp2
  go_ret
  rename_i d
  have k:decide (R (G i)=R (G j))=false:=by simpa using d
  refine⟨by rw[k];rfl,_,by(try simp only[World.drewN_drewN]);rfl⟩
 ·go_ret
  rename_i d
  have k:decide (R (G i)=R (G j))=true:=by simpa using d
  refine⟨by rw[k];rfl,_,by(try simp only[World.drewN_drewN]);rfl⟩
end Go.Proofs.YtblcgjadhemlbaaGreat
namespace Go.Proofs.YtblcgjadhemlbaaGreat
set_option linter.all false
open Go.Shelf Go.RowKit Go.Lib Go.Sort
def W5 (R:Nat→Int) {n:Nat}:SWO (λa b:Fin n=>PM R a b) where
 irrefl x:=by simp [PM]
 trans x y z h1 h2:=by
  simp only[PM] at*
  by_cases c:R x=R y<;>by_cases d:R y=R z<;>by_cases g:R x=R z<;>simp_all<;>omega
 ntrans x y z h1 h2:=by
  simp only[PM] at*
  by_cases c:R x=R y<;>by_cases d:R y=R z<;>by_cases g:R x=R z<;>simp_all<;>omega
def V1 (R:Nat→Int) (a b:Nat) (d:PM R a b=false) (g:PM R b a=false):a=b:=by
 simp only[PM] at*
 by_cases c:R a=R b
 ·simp_all;omega
 ·have i:¬R b=R a:=λj=>c j.symm
  simp_all;omega
def TL (p q g off c n s v z:Nat) [NeZero n] (W:World) (R:Nat→Int) (C:W.cell? ⟨p,0,none⟩=some (.slice (some ⟨g,off,none⟩) n c)) (D:W.cell? ⟨q,0,none⟩=some (.slice (some ⟨s,v,none⟩) n z))
  (d:Array (Fin n)) (hd:d.size=n) (F:Holds (λk:Fin n=>Value.int .i64 (k.val:Int)) W g off d) (G:∀t,t<n→W.cell? ⟨s,v+t,none⟩=some (.int .i64 (R t))) (A:g<W.heap.size) (H:p<W.heap.size) (I:q<W.heap.size) (J:s<W.heap.size) (K:p≠g) (M:q≠g) (Q:s≠g):
  LessReads Tryz.prog 109 #[.pointer (some ⟨p,0,none⟩),.pointer (some ⟨q,0,none⟩)] (λk:Fin n=>Value.int .i64 (k.val:Int)) (λa b:Fin n=>PM R a b) g off n W:=by
 intro m u o U i j V X
 have e:sortWorld (λk:Fin n=>Value.int .i64 (k.val:Int)) W g off m o u=putRow (λk:Fin n=>Value.int .i64 (k.val:Int)) (grow (Sort.ahead W m) u) g off o:=by
  unfold sortWorld;rw[putRow_grow _ (Sort.ahead W m) _ g off _ A]
 have w:Holds (λk:Fin n=>Value.int .i64 (k.val:Int)) (grow (Sort.ahead W m) u) g off d:=holds_grow _ _ _ g off d A (holds_ahead _ _ _ _ _ _ F)
 have l:∀a:Addr,a.block≠g→a.block<W.heap.size→(sortWorld (λk:Fin n=>Value.int .i64 (k.val:Int)) W g off m o u).cell? a=W.cell? a:=λa x y=>by
  rw[e,cell?_putRow_other _ _ g off o _ (Or.inl x),cell?_grow (Sort.ahead W m) _ _ y];rfl
 refine UV p q g off c n s v z n _ (λt=>(o[t]!).val) R ((l _ K H).trans C) ((l _ M I).trans D) (λt B=>?_) (λt B=>(l _ Q J).trans (G t B)) i j V X (o[i]!).isLt (o[j]!).isLt
 rw[e]
 exact cell?_putRow _ _ g off d o w (U.trans hd.symm) t (by omega)
end Go.Proofs.YtblcgjadhemlbaaGreat
namespace Go.Proofs.YtblcgjadhemlbaaGreat
set_option linter.all false
open Go.Shelf Go.RowKit Go.Lib Go.Sort
noncomputable def mH:TypeInfo:=(Tryz.prog.info? 29).get (by kernel_rfl)
noncomputable def aA:TypeInfo:=(Tryz.prog.info? 3).get (by kernel_rfl)
def siK (n:Nat) (g:2≤n):Lib.swapperK n aA 2=5:=by
 have a:aA.hasPointers=false:=by kernel_rfl
 have b:aA.bytes=8:=by kernel_rfl
 have c:(n==0)=false:=by simp;omega
 have d:(n==1)=false:=by simp;omega
 simp [Lib.swapperK,a,b,c,d]
def TK (i j g off c n l o u:Nat) [NeZero n] (W:World) (R:Nat→Int) (x:W.cell? ⟨i,0,none⟩=some (.slice (some ⟨g,off,none⟩) n c)) (y:W.cell? ⟨j,0,none⟩=some (.slice (some ⟨l,o,none⟩) n u))
  (d:Array (Fin n)) (hd:d.size=n) (K:2≤n) (z:n<4611686018427387904) (v:Holds (λk:Fin n=>Value.int .i64 (k.val:Int)) W g off d) (A:∀t,t<n→W.cell? ⟨l,o+t,none⟩=some (.int .i64 (R t))) (w:g<W.heap.size) (B:i<W.heap.size) (C:j<W.heap.size) (D:l<W.heap.size) (F:i≠g) (G:j≠g) (H:l≠g):
  Calls Tryz.prog 108 #[.iface 29 (.slice (some ⟨g,off,none⟩) n c),.func (.func 109) #[] #[.pointer (some ⟨i,0,none⟩),.pointer (some ⟨j,0,none⟩)]] W λe w'=>
   e= .returned (.tuple #[])∧∃p q I,PermIn 0 d.size d p∧SortedIn (λa b:Fin n=>PM R a b) 0 d.size p∧w'=grow (putRow (λk:Fin n=>Value.int .i64 (k.val:Int)) (Sort.ahead W q) g off p) I:=by
 have J:=TL i j g off c n l o u W R x y d hd v A w B C D F G H
 have s:=Any.sort_Slice_sorted mG 29 3 mH aA (by kernel_rfl) (by kernel_rfl) (by kernel_rfl) (by kernel_rfl) 2 (λ_=>by kernel_rfl) (by kernel_rfl) (λ_=>by kernel_rfl) (λk:Fin n=>Value.int .i64 (k.val:Int)) (λ_=>rfl) (λa b:Fin n=>PM R a b) (W5 R) 109 _
  (enters_of Tryz.func109 (by kernel_rfl) rfl) g off c d (by omega) (by omega) 122 (by rw[siK _ (by omega)];kernel_rfl) true
  (λm W=>run_callFunc_extern Tryz.func122 (by kernel_rfl) (by kernel_rfl) (by kernel_rfl) (e:=Extern.ReflectliteSwapper.swap true) (by kernel_rfl) m W) W (by rw[hd];exact J) v w
 rw[hd] at s
 change Calls Tryz.prog 108 _ _ _ at s
 rw[hd]
 exact s
end Go.Proofs.YtblcgjadhemlbaaGreat
namespace Go.Proofs.YtblcgjadhemlbaaGreat
set_option linter.all false
open Go.Shelf Go.RowKit Go.Lib Go.Sort
def Rp {j:Type}[Inhabited j] (enc:j→Value) (W:World) (q g b:Nat) (d:Array j) (a:Array Obj) (c:b<W.heap.size) (i:b≠g):(grow (putRow enc (Sort.ahead W q) g 0 d) a).heap[b]? =W.heap[b]? :=by
 show((W.heap.modify g _)++a)[b]? =_
 rw[rO (by simpa using c),Array.getElem?_modify]
 simp [Ne.symm i]
def Rq {i:Type}[Inhabited i] (enc:i→Value) (W:World) (q g:Nat) (d:Array i) (b:Array Obj) {cur:Array Value}{T:TypeId}{fr:Nat×Nat}(c:W.heap[g]? =some (.cells cur T fr)):(grow (putRow enc (Sort.ahead W q) g 0 d) b).heap[g]? =some (.cells (putCells enc 0 d cur) T fr):=by
 have a:g<W.heap.size:=(nS.1 c).1
 show((W.heap.modify g _)++b)[g]? =_
 rw[rO (by simpa using a),Array.getElem?_modify]
 simp [c,onCells]
def P0 {b:Type}[Inhabited b] (enc:b→Value) (W:World) (q g:Nat) (d:Array b) (a:Array Obj):W.heap.size≤(grow (putRow enc (Sort.ahead W q) g 0 d) a).heap.size:=by
 show W.heap.size≤((W.heap.modify g _)++a).size
 simp
end Go.Proofs.YtblcgjadhemlbaaGreat
namespace Go.Proofs.YtblcgjadhemlbaaGreat
set_option linter.all false
open Go.Shelf Go.RowKit Go.Lib Go.Sort
def O9 {lt:Int→Int→Bool}(g:∀x,lt x x=false) (i:∀x y z,lt x y=true→lt y z=true→lt x z=true) (j:∀x y z,lt x y=false→lt y z=false→lt x z=false) (x:Int):∀l:List Int,l.Pairwise (λa b=>lt b a=false)→(Qs lt x l).Pairwise λa b=>lt b a=false
 |[],_=>by simp [Qs]
 |y::l,o=>by
  have k:∀z,z∈l→lt z y=false:=λz c=>List.rel_of_pairwise_cons o c
  have m:=o.of_cons
  unfold Qs
  cases d:lt y x with
  |true=>
   refine List.Pairwise.cons (λz c=>?_) (O9 g i j x l m)
   rcases nM.1 ((NJ lt x l).mem_iff.1 c) with rfl|c
   ·cases n:lt z y with
    |false=>rfl
    |true=>have:=i _ _ _ d n;rw[g] at this;cases this
   ·exact k z c
  |false=>
   refine List.Pairwise.cons (λz c=>?_) o
   rcases nM.1 c with rfl|c
   ·exact d
   ·exact j _ _ _ (k z c) d
def OH {lt:Int→Int→Bool}(c:∀x,lt x x=false) (d:∀x y z,lt x y=true→lt y z=true→lt x z=true) (g:∀x y z,lt x y=false→lt y z=false→lt x z=false):∀l:List Int,(Lv lt l).Pairwise λa b=>lt b a=false
 |[]=> .nil
 |x::l=>O9 c d g x _ (OH c d g l)
def UK (a:List Int) (x:Int):O5 a x x=false:=by simp [O5,PM]
def hE (a b c:Int) (x y z:Nat) (d:cond (!decide (a=b)) (decide (b<a)) (decide (x<y))=true) (g:cond (!decide (b=c)) (decide (c<b)) (decide (y<z))=true):cond (!decide (a=c)) (decide (c<a)) (decide (x<z))=true:=by
 by_cases i:a=b<;>by_cases j:b=c<;>by_cases k:a=c<;>simp_all<;>omega
def hJ (a b c:Int) (x y z:Nat) (d:cond (!decide (a=b)) (decide (b<a)) (decide (x<y))=false) (g:cond (!decide (b=c)) (decide (c<b)) (decide (y<z))=false):cond (!decide (a=c)) (decide (c<a)) (decide (x<z))=false:=by
 by_cases i:a=b<;>by_cases j:b=c<;>by_cases k:a=c<;>simp_all<;>omega
def V2 (a:List Int) (x y z:Int) (b:O5 a x y=true) (c:O5 a y z=true):O5 a x z=true:=hE _ _ _ _ _ _ b c
def UJ (a:List Int) (x y z:Int) (b:O5 a x y=false) (c:O5 a y z=false):O5 a x z=false:=hJ _ _ _ _ _ _ b c
def R9 (c:List Int) {l d:List Int}(h0:∀x,x∈l→0≤x) (g:d.Perm l) (i:d.Pairwise λa b=>O5 c b a=false):d=Lv (O5 c) l:=by
 refine List.Perm.eq_of_pairwise (le:=λx y=>O5 c y x=false) (λa b j k m n=>?_) i (OH (UK c) (V2 c) (UJ c) l) (g.trans (LH _ l).symm)
 have e:=V1 _ _ _ n m
 have o:=h0 a (g.mem_iff.1 j)
 have p:=h0 b ((LH _ l).mem_iff.1 k)
 omega
def Ry {S:Nat→Prop}{o:BL}:∀{l:List Int}{cs:List Value},Kz S o AJ cs l→cs=l.map (Value.int .i64)∧∀x,x∈l→AH x
 |[],cs,k=>⟨k,λx d=>by cases d⟩
 |x::l,cs,⟨g,n,e,c,i⟩=>by
  have a:g=[.int .i64 x]:=c.1
  obtain⟨j,m⟩:=Ry i
  subst e;subst a;subst j
  exact⟨rfl,λy b=>by
   rcases nM.1 b with rfl|b
   ·exact c.2
   ·exact m y b⟩
def TT {S:Nat→Prop}{b:BL}:∀{l:List Int},(∀x,x∈l→AH x)→Kz S b AJ (l.map (Value.int .i64)) l
 |[],_=>rfl
 |x::l,k=>⟨[.int .i64 x],_,rfl,⟨rfl,k x (oB ..)⟩,TT λy a=>k y (oI _ a)⟩
def lD:Lib.swapperK 1 aA 2=2:=by
 have a:aA.hasPointers=false:=by kernel_rfl
 have b:aA.bytes=8:=by kernel_rfl
 simp [Lib.swapperK,a,b]
def Qn {n:Nat}[NeZero n] (enc:Fin n→Value) (d:Array (Fin n)) (cur:Array Value) (b:d.size≤cur.size):(putCells enc 0 d cur).toList.take d.size=d.toList.map enc:=by
 apply oR
 intro i
 rw[rJ]
 by_cases a:i<d.size
 ·rw[nD a,Array.getElem?_toList]
  have c:i<cur.size:=by omega
  simp [putCells,a,c,getElem!_pos]
 ·rw[nB a,oE (by simpa using a)]
def UI {S:Nat→Prop}{L:List HP}{h:BL}{A s:Nat}{v Y:Value}{c p G:List Int}(Z:St S (Bx A 29 [v]::OS AJ 3 v c::Bx s 29 [Y]::OS AJ 3 Y p::L) h) (E:P3 c p=some G):
  C5 Tryz.prog 108 #[.iface 29 v,.func (.func 109) #[] #[.pointer (some ⟨A,0,none⟩),.pointer (some ⟨s,0,none⟩)]] S h (λr S' h'=>r= .tuple #[]∧St S' (Bx A 29 [v]::OS AJ 3 v G::Bx s 29 [Y]::OS AJ 3 Y p::L) h'):=by
 unfold P3 at E
 split at E
 ·rename_i hc
  obtain⟨hl,D,am,H⟩:=hc
  cases E
  intro B W m
  have u:∀x,x∈c→0≤x∧x<c.length:=λx I=>by simpa using nC.1 H x I
  obtain⟨F1,k1,s1,F2,k2,s2,F3,k3,s3,F4,k4,s4,_⟩:=Z.2
  rcases k2 with ⟨_,e0,_⟩|⟨g,cap,cur,e1,e2,e3,e4,e5,e6,e7⟩
  ·rw[e0] at D;cases D
  rcases k4 with ⟨_,e0,_⟩|⟨rb,rcap,rcur,f1,f2,f3,f4,f5,f6,f7⟩
  ·rw[hl,e0] at D;cases D
  subst e1;subst f1
  have hn:NeZero c.length:=⟨by omega⟩
  obtain⟨r1,r2⟩:=Ry e7
  obtain⟨q1,q2⟩:=Ry f7
  have r1:cur.toList.take c.length=c.map (Value.int .i64):=by rw[←r1];congr 1;exact(qJ _).symm
  have q1:rcur.toList.take p.length=p.map (Value.int .i64):=by rw[←q1];congr 1;exact(qJ _).symm
  have e6:cur.size=cap:=by rw[e6];exact qJ _
  have n:∀(b:Nat) (cs:Array Value) (T:TypeId) (t:Nat),h[b]? =some (.cells cs T (0,0))→W.cell? ⟨b,t,none⟩=cs[t]? :=λb cs T t z=>by
   rw[KZ,m.heap];simp [Ip,z]
  have n1:A≠g:=λe=>(s2 g ((e2 g).2 rfl)).2 (by rw[k1.1 g];exact e.symm)
  have n2:s≠g:=λe=>(s3 s ((k3.1 s).2 rfl)).2 ((e2 s).2 e)
  have n3:rb≠g:=λe=>(s4 rb ((f2 rb).2 rfl)).1.2 ((e2 rb).2 e)
  have lt:∀(b:Nat) o,h[b]? =some o→b<W.heap.size:=λb o z=>by rw[m.heap];exact(nS.1 z).1
  have J:∀t (w:t<c.length),cur[t]? =some (.int .i64 c[t]):=λt w=>by
   have:(cur.toList.take c.length)[t]? =some (.int .i64 c[t]):=by rw[r1];simp [w]
   rw[pA w] at this
   simpa using this
  have aa:∀t,t<c.length→rcur[t]? =some (.int .i64 (p.getD t 0)):=λt w=>by
   have y:t<p.length:=by omega
   have:(rcur.toList.take p.length)[t]? =some (.int .i64 (p.getD t 0)):=by rw[q1];simp [y,oT]
   rw[pA y] at this
   simpa using this
  by_cases ab:2≤c.length
  ·have hd:=λ(i:Fin c.length)=>(u c[i] (nP _))
   obtain⟨d,ds,K⟩:∃d:Array (Fin c.length),d.size=c.length∧d.toList.map (λk=>(k.val:Int))=c:=by
    refine⟨Array.ofFn λi:Fin c.length=>(⟨(c[i]).toNat,by have:=hd i;omega⟩:Fin c.length),by simp,?_⟩
    apply oR
    intro i
    by_cases hi:i<c.length
    ·have h9:=(u c[i] (nP _)).1
     simp [hi]
     omega
    ·rw[oE (by simpa using hi),oE (by omega)]
   have ac:∀t (w:t<c.length),((d[t]!).val:Int)=c[t]:=λt w=>by
    have a:(d.toList.map (λk=>(k.val:Int)))[t]? =some c[t]:=by rw[K];simp [w]
    have y:t<d.size:=by omega
    rw[getElem!_pos d t y]
    simpa [y] using a
   refine(TK A s g 0 cap c.length rb 0 rcap W (λt=>p.getD t 0) ((n A _ _ 0 k1.2).trans rfl) ((n s _ _ 0 k3.2).trans (by rw[hl];rfl)) d ds ab (by omega) (λj hj=>⟨?_,?_⟩) (λt w=>?_) (lt g _ e3) (lt A _ k1.2) (lt s _ k3.2) (lt rb _ f3) n1 n2 n3).mono ?_
   ·rw[oK,n g cur 3 j e3,J j (by omega)]
    show _=some (Value.int .i64 ((d[j]!).val:Int))
    rw[ac j (by omega)]
   ·simp [World.frozen?,m.heap,e3]
   ·rw[oK,n rb rcur 3 t f3];exact aa t w
   rintro e w' ⟨rfl,l,q,C,hp,ad,rfl⟩
   have M:l.size=c.length:=hp.1.trans ds
   have Q:(l.toList.map (λk=>(k.val:Int))).Perm c:=by
    have a:=hp.2.2
    have ae:l.extract 0 d.size=l:=by rw[←hp.1];exact Array.extract_size
    rw[ae,Array.extract_size] at a
    have:=a.map (λk:Fin c.length=>(k.val:Int))
    rwa [K] at this
   have af:(l.toList.map (λk=>(k.val:Int))).Pairwise λa b=>O5 p b a=false:=by
    rw[List.pairwise_map,rK]
    intro i j hi hj ag
    have ah:i<l.size:=by simpa using hi
    have ai:j<l.size:=by simpa using hj
    have:=ad i j (nE _) ag (by omega)
    rw[getElem!_pos l j ai,getElem!_pos l i ah] at this
    simpa [O5] using this
   have hq:=R9 p (λx I=>(u x I).1) Q af
   rw[←hq]
   have aj:=Rq (λk:Fin c.length=>Value.int .i64 (k.val:Int)) W q g l C (cur:=cur) (T:=3) (fr:=(0,0)) (by rw[m.heap];exact e3)
   have U:=Z.upd (H':=OS AJ 3 (.slice (some ⟨g,0,none⟩) c.length cap) (l.toList.map (λk=>(k.val:Int)))) (h':=(grow (putRow (λk:Fin c.length=>Value.int .i64 (k.val:Int)) (Sort.ahead W q) g 0 l) C).heap) (.tail .head) (by have:=P0 (λk:Fin c.length=>Value.int .i64 (k.val:Int)) W q g l C;rw[m.heap] at this;exact this) (λF V m2=>by
    rcases V with ⟨_,V,_⟩|⟨g',cap',cur',V,m3,_⟩
    ·rw[V] at D;cases D
    ·injection V with X z2 z3
     injection X with X
     injection X with X
     subst X
     refine⟨F,.inr ⟨g,cap,_,by simp [M],m3,aj,by simpa [M] using e4,e5,?_,?_⟩,λ_ z=> .inl z,λb z ak=>?_⟩
     ·simp only[putCells,Array.size_mapIdx];rw[e6];exact(qJ _).symm
     ·have w:=Qn (λk:Fin c.length=>Value.int .i64 (k.val:Int)) l cur (by omega)
      rw[show (l.toList.map (λk=>(k.val:Int))).length*AJ.sz=l.size from by simp;exact qJ _,w]
      have:l.toList.map (λk:Fin c.length=>Value.int .i64 (k.val:Int))=(l.toList.map (λk=>(k.val:Int))).map (Value.int .i64):=by rw[List.map_map];rfl
      rw[this]
      exact TT λx I=>r2 x (Q.mem_iff.1 I)
     ·rw[Rp _ W q g b l C (by rw[m.heap];exact z) (λe=>ak ((m3 b).2 e)),m.heap])
   exact⟨_,S,_,rfl,⟨rfl,m.os,m.tape,m.out⟩,U.2,rfl,U.1⟩
  ·have al:c.length=1:=by omega
   obtain⟨x,rfl⟩:∃x,c=[x]:=List.length_eq_one_iff.1 al
   have hT:=Any.sort_Slice_tiny (P:=Tryz.prog) { mG with} 29 3 mH aA (by kernel_rfl) (by kernel_rfl) (by kernel_rfl) (by kernel_rfl) 2 (λ_=>by kernel_rfl) (some ⟨g,0,none⟩) 1 cap (nJ _) 119 (by rw[lD];kernel_rfl) (.func 109) #[] #[.pointer (some ⟨A,0,none⟩),.pointer (some ⟨s,0,none⟩)] W
   change Calls Tryz.prog 108 _ _ _ at hT
   refine hT.mono ?_
   rintro e w' ⟨rfl,C,rfl⟩
   have ho:Fp h (grow W C).heap:=⟨by show h.size≤(W.heap++C).size;rw[m.heap];simp,λb z=>by show(W.heap++C)[b]? =_;rw[m.heap,rO z]⟩
   exact⟨_,S,_,rfl,⟨rfl,m.os,m.tape,m.out⟩,ho.ext Z.1,rfl,ho.st Z⟩
 ·cases E
end Go.Proofs.YtblcgjadhemlbaaGreat
