import Derived.Test.YtblcgjadhemlbaaGreatRPureEz
import Derived.Test.YtblcgjadhemlbaaGreatRPureEx
namespace Go.Proofs.YtblcgjadhemlbaaGreat
open Go.RowKit
set_option linter.unusedVariables false
set_option linter.unusedSimpArgs false
def Mi (W:Nat) (t:Int) (q:List Al) (p:Nat):List Int:=(q.filter λl=>decide (l.At≤t)&&decide (l.To=(p:Int))).foldl (λa l=>Fp a l.Part) (List.replicate W 0)
def NL (t:Int) (q:List Al):List Al:=q.filter λl=>decide (t<l.At)
theorem Jq {W:Nat}{t:Int}{q:List Al}{p k:Nat}(h:k<q.length):Mi W t (q.take (k+1)) p=if (q[k]).At≤t∧(q[k]).To=(p:Int) then Fp (Mi W t (q.take k) p) (q[k]).Part else Mi W t (q.take k) p:=by
 unfold Mi
 rw[List.take_succ_eq_append_getElem h,List.filter_append,List.foldl_append]
 by_cases h1:(q[k]).At≤t∧(q[k]).To=(p:Int)
 ·rw[if_pos h1];simp [h1.1,h1.2]
 ·rw[if_neg h1]
  have:(decide ((q[k]).At≤t)&&decide ((q[k]).To=(p:Int)))=false:=by
   rw[Bool.and_eq_false_iff]
   simp only[decide_eq_false_iff_not]
   by_cases h2:(q[k]).At≤t
   ·exact .inr λh3=>h1 ⟨h2,h3⟩
   ·exact .inl h2
  simp [this]
theorem Lg {t:Int}{q:List Al}{k:Nat}(h:k<q.length):NL t (q.take (k+1))=if (q[k]).At≤t then NL t (q.take k) else NL t (q.take k)++[q[k]]:=by
 unfold NL
 rw[List.take_succ_eq_append_getElem h,List.filter_append]
 by_cases h1:(q[k]).At≤t
 ·rw[if_pos h1];simp;omega
 ·rw[if_neg h1]
  have:t<(q[k]).At:=by omega
  simp [this]
theorem V6 (a b:List Al):IW (a++b)=IW a+IW b:=by unfold IW;rw[List.map_append,List.sum_append]
structure kA (P W:Nat) (t:Int) (q:List Al) (k:Nat) (s:List Al×List (List Int)):Prop where
 rest:s.1=NL t (q.take k)
 own:I0 P W s.2
 at_:∀p,p<P→s.2[p]? =some (Mi W t (q.take k) p)
 tot:Gn s.2+IW s.1=IW (q.take k)
theorem Sd (W:Nat):∀P:Nat,Gn (List.replicate P (List.replicate W 0))=0
 |0=>rfl
 |P+1=>by
  have:=Sd W P
  unfold Gn at this ⊢
  rw[List.replicate_succ,List.map_cons,List.sum_cons,this,T8];rfl
theorem Z3 {N:Nat}(hN:1000000<N) {P W:Nat}(hP:P≤64) (hW:W≤16) {q:List Al}(hq:q.length≤1000) (hqx:QX P W q) (hqs:IW q≤1125899906842624) (t:Int):
  ∃s,J7 N q t (P:Int) (W:Int)=some (s.2,s.1)∧kA P W t q q.length s:=by
 unfold J7
 rw[N1,Option.bind_some,N1,Option.bind_some,if_neg (show ¬(P:Int)<0 by omega),if_neg (show ¬64<(P:Int) by omega),if_neg (show ¬(W:Int)<0 by omega),if_neg (show ¬16<(W:Int) by omega),Jo (by omega) _ (by decide)]
 obtain⟨o,⟨i1,i2⟩,e⟩:=DZ P (λn i l=>FZ N (P:Int) (W:Int) (Fa N q t (P:Int)) n i l) (Fa N q t (P:Int)) (λk (l:List (List Int))=>l.length=P∧∀i,i<k→l[i]? =some (List.replicate W 0)) (λn k l hk=>by
  simp only[FZ];rw[Nn,Eh hk];rfl) (λn k l hi hk=>by
  simp only[FZ]
  have hkl:k<l.length:=by rw[hi.1];exact hk
  rw[Nn,Ee hk,cond_true,Jo (by omega) _ (by decide),BI hkl,Option.bind_some,Option.bind_some,BF (by omega)]
  refine⟨_,⟨by rw[L7];exact hi.1,λi hik=>?_⟩,rfl⟩
  by_cases hne:k=i
  ·subst hne;rw[Fo hkl];rfl
  ·rw[Hx hne];exact hi.2 i (by omega)) N 0 (List.replicate ((P:Int)).toNat ([]:List Int)) ⟨Nn _ _,λi hi=>by omega⟩ (by omega) (Nat.zero_le _)
 rw[show FZ N (P:Int) (W:Int) (Fa N q t (P:Int)) N 0 _=Fa N q t (P:Int) o from e]
 have ho:o=List.replicate P (List.replicate W 0):=List.ext_getElem? λi=>by
  rcases Nat.lt_or_ge i P with h|h
  ·rw[i2 i h,List.getElem?_replicate,if_pos h]
  ·rw[List.getElem?_eq_none (by omega),List.getElem?_eq_none (by simp;omega)]
 have hox:I0 P W o:=⟨i1,λx hx=>by rw[ho] at hx;rw[(List.mem_replicate.1 hx).2];exact PX.zero W⟩
 unfold Fa
 obtain⟨s,i3,e2⟩:=DZ q.length (λn i (s:List Al×List (List Int))=>Ex N q t (P:Int) (Gw N) n s.1 i s.2) (λs=>Gw N s.1 s.2) (λk s=>kA P W t q k s) (λn k s hk=>by
  simp only[Ex];rw[Eh hk];rfl) (λn k s hi hk=>by
  obtain⟨rs,o⟩:=s
  obtain⟨j1,j2,j3,j4⟩:=hi
  simp only at j1 j2 j3 j4
  obtain⟨x1,x2,x3⟩:=hqx _ (List.getElem_mem hk)
  have h2:=Io hqx (k+1)
  rw[Kd hk] at h2
  have hrl:rs.length≤k:=by rw[j1];exact Nat.le_trans (List.length_filter_le _ _) (by rw[List.length_take];omega)
  have hr0:0≤IW rs:=by
   rw[j1]
   exact RP λl hl=>(hqx l (List.mem_of_mem_take ((List.mem_filter.1 hl).1))).1.sum0
  simp only[Ex,Ie]
  rw[Ee hk,cond_true,BI hk,Option.bind_some,BF (by omega),decide_eq_true x2,decide_eq_true x3,Bool.and_true,Bool.and_true]
  by_cases ht:(q[k]).At≤t
  ·obtain⟨j,hj,hjl⟩:=bK (l:=o) x2 (by rw[j2.len];exact x3)
   obtain⟨y,hy,hyk,hyp⟩:=j2.ix (k:=j) (by rw[←j2.len];exact hjl)
   have hys:=j2.le hyk
   have hadd:=hyp.add x1 (by omega)
   rw[decide_eq_true ht,cond_true,hj,hy,Option.bind_some,Option.bind_some,hyp.padd hN (by omega) x1,Option.bind_some,Option.bind_some,Option.bind_some]
   refine⟨(_,_),⟨by rw[Lg hk,if_pos ht];exact j1,j2.upd _ hadd,λp hp=>?_,?_⟩,rfl⟩
   ·show(upd o (j:Int) _)[p]? =_
    rw[Jq hk]
    by_cases hpj:j=p
    ·subst hpj
     rw[Fo hjl,if_pos ⟨ht,hj⟩]
     rw[j3 j hp] at hyk
     rw[Option.some.inj hyk]
    ·rw[Hx hpj,if_neg (by rw[hj];omega)];exact j3 p hp
   ·show Gn (upd o (j:Int) _)+IW rs=_
    rw[Nq hyk,HH (hyp.len.trans x1.len.symm),Kd hk]
    omega
  ·rw[decide_eq_false ht,cond_false,Ke N (by rw[x1.len];omega),Option.bind_some,Ia (by simp;omega)]
   refine⟨(_,_),⟨by rw[Lg hk,if_neg ht,←j1],j2,λp hp=>?_,?_⟩,rfl⟩
   ·rw[Jq hk,if_neg λh=>ht h.1];exact j3 p hp
   ·show Gn o+IW (rs++[_])=_
    rw[V6,Kd hk]
    simp only[IW,List.map_cons,List.map_nil,List.sum_cons,List.sum_nil] at j4 ⊢
    omega) N 0 ([],o) ⟨rfl,hox,λp hp=>by
   show o[p]? =_
   rw[i2 p hp];rfl,by
   show Gn o+IW []=IW (q.take 0)
   rw[ho,Sd];rfl⟩ (by omega) (Nat.zero_le _)
 exact⟨s,e2,i3⟩
structure ArX (w:Aq) (W:Nat) (r:List (List Int)×List Al×List Ax×List Int):Prop where
 own:I0 w.b.Places.length W r.1
 at_:∀(p:Nat) x,w.s.Own[p]? =some x→r.1[p]? =some (Fp x (Mi W w.s.Hour w.s.Queue p))
 rest:r.2.1=NL w.s.Hour w.s.Queue
 pk:r.2.2.2=r.1.map List.sum
 tot:Gn r.1+IW r.2.1=Gn w.s.Own+IW w.s.Queue
theorem aH {N:Nat}(hN:1000000<N) {w:Aq}{W:Nat}(hW:w.b.Owners.length=W) (h16:W≤16) (hP:w.b.Places.length≤64) (hL:w.b.Links.length≤96) (hlk:∀l∈w.b.Links,Jr w.b l) (ho:I0 w.b.Places.length W w.s.Own) (hq:w.s.Queue.length≤1000) (hqx:QX w.b.Places.length W w.s.Queue) (ht:Gn w.s.Own+IW w.s.Queue≤1125899906842624) (hpk:w.peaks.length=w.b.Places.length) (hg:w.s.Gates.length=w.b.Links.length):
  ∃r,GE N w=some r∧ArX w W r∧r.2.2.1.length=w.b.Links.length:=by
 have ho0:=ho.sum0
 have hq0:=(Io hqx 0).2
 rw[List.take_zero,show IW ([]:List Al)=0 from rfl] at hq0
 unfold GE
 rw[hW]
 obtain⟨⟨rs,ar⟩,hy,⟨y1,y2,y3,y4⟩⟩:=Z3 hN hP h16 hq hqx (by omega) w.s.Hour
 simp only at y1 y2 y3 y4 hy
 rw[List.take_length] at y1 y3 y4
 rw[hy,Option.bind_some]
 have hrs0:0≤IW rs:=by
  rw[y1]
  exact RP λl hl=>(hqx l ((List.mem_filter.1 hl).1)).1.sum0
 have har0:=y2.sum0
 obtain⟨⟨o,pk⟩,⟨i1,i2,i3,i4,i5,i6⟩,e⟩:=DZ w.b.Places.length (λn i (s:List (List Int)×List Int)=>CW N w (ar,rs) (CX N w (ar,rs)) n i s.1 s.2) (λs=>CX N w (ar,rs) s.1 s.2) (λk s=>I0 w.b.Places.length W s.1∧s.2.length=w.b.Places.length∧(∀(p:Nat) x,p<k→w.s.Own[p]? =some x→s.1[p]? =some (Fp x (Mi W w.s.Hour w.s.Queue p)))∧(∀p,k≤p→s.1[p]? =w.s.Own[p]?)∧(∀(p:Nat) x,p<k→s.1[p]? =some x→s.2[p]? =some x.sum)∧Gn s.1=Gn w.s.Own+Gn (ar.take k)) (λn k s hk=>by
  simp only[CW];rw[Eh hk];rfl) (λn k s hi hk=>by
  obtain⟨o,pk⟩:=s
  obtain⟨i1,i2,i3,i4,i5,i6⟩:=hi
  simp only at i1 i2 i3 i4 i5 i6
  obtain⟨a,ha,hak,hap⟩:=i1.ix hk
  obtain⟨c,hc,hck,hcp⟩:=y2.ix hk
  have hcl:k<ar.length:=by rw[y2.len];exact hk
  have hce:ar[k]=c:=by rw[List.getElem?_eq_getElem hcl] at hck;exact Option.some.inj hck
  have t1:=Li y2 (k+1)
  rw[LP hcl,hce] at t1
  have t2:=i1.le hak
  have hd:=hap.add hcp (by omega)
  have hul:k<(upd o (k:Int) (Fp a c)).length:=by rw[L7,i1.len];exact hk
  simp only[CW]
  rw[Ee hk,cond_true,BF (by omega),ha,Option.bind_some,Option.bind_some,hc,Option.bind_some,Option.bind_some,hap.padd hN (by omega) hcp,Option.bind_some,Option.bind_some,Option.bind_some]
  have hix:ix (upd o (k:Int) (Fp a c)) (k:Int)=some (Fp a c):=by
   rw[BI hul]
   have:=Fo (l:=o) (k:=k) (by rw[i1.len];exact hk) (Fp a c)
   rw[List.getElem?_eq_getElem hul] at this
   exact this
  rw[hix,Option.bind_some,Option.bind_some,hd.total hN (by omega),Option.bind_some,BI (show k<pk.length by omega),Option.bind_some,Option.bind_some]
  refine⟨(_,_),⟨i1.upd _ hd,by show(upd pk _ _).length=_;rw[L7];exact i2,λp x hp hx=>?_,λp hp=>?_,λp x hp hx=>?_,?_⟩,rfl⟩
  ·show(upd o (k:Int) _)[p]? =_
   by_cases hpk:k=p
   ·subst hpk
    rw[Fo (by rw[i1.len];exact hk)]
    rw[i4 k (Nat.le_refl _),hx] at hak
    cases hak
    rw[y3 k hk] at hck
    rw[Option.some.inj hck]
   ·rw[Hx hpk];exact i3 p x (by omega) hx
  ·show(upd o (k:Int) _)[p]? =_
   rw[Hx (by omega)];exact i4 p (by omega)
  ·change (upd o (k:Int) (Fp a c))[p]? =some x at hx
   show(upd pk (k:Int) _)[p]? =_
   by_cases hpk:k=p
   ·subst hpk
    rw[Fo (by rw[i1.len];exact hk)] at hx
    rw[Fo (by omega),Option.some.inj hx]
   ·rw[Hx hpk] at hx ⊢;exact i5 p x (by omega) hx
  ·show Gn (upd o (k:Int) _)=_
   rw[Nq hak,HH (hap.len.trans hcp.len.symm),LP hcl,hce,i6]
   omega) N 0 (w.s.Own,w.peaks) ⟨ho,hpk,λp x hp=>by omega,λp _=>rfl,λp x hp=>by omega,by simp [Gn]⟩ (by omega) (Nat.zero_le _)
 rw[show CW N w (ar,rs) (CX N w (ar,rs)) N 0 w.s.Own w.peaks=CX N w (ar,rs) o pk from e]
 simp only at i1 i2 i3 i4 i5 i6
 have hat:ar.take w.b.Places.length=ar:=by rw[←y2.len,List.take_length]
 rw[hat] at i6
 unfold CX
 obtain⟨gs,j1,e2⟩:=DZ w.b.Links.length (λn i s=>CN N w (ar,rs) o pk n i s) (λs=>some (o,rs,s,pk)) (λi s=>s.length=w.b.Links.length) (λn k s hk=>by
  simp only[CN];rw[Eh hk];rfl) (λn i s hi hk=>by
  simp only[CN,FG]
  have ok:=hlk _ (List.getElem_mem hk)
  rw[Ee hk,cond_true,BI hk,Option.bind_some,BF (by omega)]
  cases decide ((w.b.Links[i]).Kind=3)
  ·exact⟨s,hi,rfl⟩
  ·rw[cond_true,BI (show i<s.length by omega),Option.bind_some,Option.bind_some,Zq ok.fr.1 (by rw[i2];exact ok.fr.2),Option.bind_some,Option.bind_some,(dQ N _ _ _).1,Option.bind_some,Option.bind_some,Option.bind_some]
   exact⟨_,by rw[L7];exact hi,rfl⟩) N 0 w.s.Gates hg (by omega) (Nat.zero_le _)
 refine⟨_,e2,⟨i1,λp x hx=>i3 p x ?_ hx,y1,?_,?_⟩,j1⟩
 ·rw[←ho.len];exact(List.getElem?_eq_some_iff.1 hx).1
 ·show pk=o.map List.sum
  apply List.ext_getElem?
  intro p
  rcases Nat.lt_or_ge p w.b.Places.length with h|h
  ·obtain⟨x,_,hx,_⟩:=i1.ix h
   rw[i5 p x h hx,List.getElem?_map,hx];rfl
  ·rw[List.getElem?_eq_none (by omega),List.getElem?_eq_none (by rw[List.length_map,i1.len];omega)]
 ·show Gn o+IW rs=_
  omega
end Go.Proofs.YtblcgjadhemlbaaGreat
namespace Go.Proofs.YtblcgjadhemlbaaGreat
open Go.RowKit
set_option linter.unusedVariables false
set_option linter.unusedSimpArgs false
def O4 (b:AX) (p:Nat) (way:Int):Int:=if 0≤way∧way<b.Links.length then (UJ b way.toNat).Delay else if way= -3 then 0 else (b.Places.getD p default).Delay
structure gU (b:AX) (W p:Nat) (e:AL):Prop where
 tk:∀x,PX W x→∃t,e.take x=some (t,Hv x t)∧TI t x
 way:e.way≠ -4
 to:e.to_= -1∨(0≤e.to_∧e.to_<b.Places.length)
 dl:e.delay=O4 b p e.way
structure bN (b:AX) (H:Int) (W p:Nat) (m:Ak):Prop where
 hour:m.Hour=H
 fr:m.From=(p:Int)
 way:m.Way≠ -4
 to:m.To= -1∨(0≤m.To∧m.To<b.Places.length)
 px:PX W m.Part
 pos:0<m.Part.sum
def JS (b:AX) (H:Int) (m:Ak):Option Al:=if m.To<0 then none else some ⟨BD (BD (H+1)+O4 b m.From.toNat m.Way),m.To,m.Part⟩
def Pm (N:Nat) (out:List Int) (ms:List Ak):List Int:=ms.foldl (λo m=>if m.To<0 then (DD N o m.Part).getD [] else o) out
def L9 (o:List (List Int)) (ms:List Ak):List (List Int):=ms.foldl (λo m=>upd o m.From (Hv (o.getD m.From.toNat []) m.Part)) o
def N4:List Ak→List (List Int)→Prop
 |[],_=>True
 |m::ms,o=>(∃x,o[m.From.toNat]? =some x∧TI m.Part x)∧N4 ms (upd o m.From (Hv (o.getD m.From.toNat []) m.Part))
def O2 (ms:List Ak):Int:=(ms.map λm=>m.Part.sum).sum
theorem N4.app:∀{l1 l2:List Ak}{o:List (List Int)},N4 l1 o→N4 l2 (L9 o l1)→N4 (l1++l2) o
 |[],_,_,_,h=>h
 |m::l1,l2,o,h1,h2=>⟨h1.1,N4.app (l1:=l1) h1.2 h2⟩
structure R7 (b:AX) (H:Int) (N W p:Nat) (o:List (List Int)) (out:List Int) (ms:List Ak) (sn:List Al) (o':List (List Int)) (out':List Int) (ms':List Ak) (sn':List Al) (l:List Ak):Prop where
 mv:∀m∈l,bN b H W p m
 ms_:ms'=ms++l
 own:o'=L9 o l
 out_:out'=Pm N out l
 sn_:sn'=sn++l.filterMap (JS b H)
 val:N4 l o
 ox:I0 b.Places.length W o'
 ol:out'.length=W
 tot:Gn o'+O2 l=Gn o
theorem R7.nil {b:AX}{H:Int}{N W p:Nat}{o:List (List Int)}{out:List Int}{ms:List Ak}{sn:List Al}(ho:I0 b.Places.length W o) (hl:out.length=W):R7 b H N W p o out ms sn o out ms sn []:=
 ⟨λm hm=>(by cases hm),by simp,rfl,rfl,by simp,trivial,ho,hl,by simp [O2]⟩
theorem Sf (a b:List Ak):O2 (a++b)=O2 a+O2 b:=by unfold O2;rw[List.map_append,List.sum_append]
theorem R7.trans {b:AX}{H:Int}{N W p:Nat}{o o' o'':List (List Int)}{out out' out'':List Int}{ms ms' ms'':List Ak}{sn sn' sn'':List Al}{l l':List Ak}(h:R7 b H N W p o out ms sn o' out' ms' sn' l) (k:R7 b H N W p o' out' ms' sn' o'' out'' ms'' sn'' l'):R7 b H N W p o out ms sn o'' out'' ms'' sn'' (l++l'):=
 ⟨λm hm=>(List.mem_append.1 hm).elim (h.mv m) (k.mv m),by rw[k.ms_,h.ms_,List.append_assoc],by rw[k.own,h.own];unfold L9;rw[List.foldl_append],by rw[k.out_,h.out_];unfold Pm;rw[List.foldl_append],by rw[k.sn_,h.sn_,List.filterMap_append,List.append_assoc],h.val.app (by rw[←h.own];exact k.val),k.ox,k.ol,by rw[Sf];have:=h.tot;have:=k.tot;omega⟩
theorem Xq {N:Nat}(hN:1000000<N) (t:Int) {to:Int}(h0:0≤to) {p:List Int}(hp:p.length≤1000) (hnn:∀x∈p,0≤x) (hs:0<p.sum):JZ N t to p=some [⟨t,to,p⟩]:=by
 obtain⟨i,hi,hip⟩:∃(i:Nat) (h:i<p.length),0<p[i]:=by
  apply Classical.byContradiction
  intro hn
  have:p.sum≤p.length*0:=Jn λx hx=>by
   obtain⟨i,hi,rfl⟩:=List.mem_iff_getElem.1 hx
   have:=hn
   apply Classical.byContradiction
   intro h
   exact hn ⟨i,hi,by omega⟩
  omega
 have hc:∃j:Int,0≤j∧EJ N p (λx=>Gv N x)=some j:=by
  unfold EJ
  have:∀(n k:Nat),p.length<n+k→k≤i→∃j:Int,0≤j∧CU N p (λx=>Gv N x) (De N) n (k:Int)=some j:=by
   intro n
   induction n with
   |zero=>intro k h1 h2;omega
   |succ n ih=>
    intro k h1 h2
    have hk:k<p.length:=by omega
    simp only[CU,Gv]
    rw[Ee hk,cond_true,BI hk,BF (by omega),Option.bind_some,Option.bind_some]
    by_cases h:0<p[k]
    ·rw[decide_eq_true h];exact⟨(k:Int),by omega,rfl⟩
    ·rw[decide_eq_false h,cond_false]
     have:k≠i:=λe=>by subst e;exact h hip
     exact ih (k+1) (by omega) (by omega)
  exact this N 0 (by omega) (Nat.zero_le _)
 obtain⟨j,hj0,hj⟩:=hc
 unfold JZ Em
 rw[hj,decide_eq_false (show ¬to<0 by omega),cond_false,Option.bind_some,Option.bind_some,decide_eq_true hj0,Bool.not_true,Option.bind_some,cond_false,Ke N (by omega),Option.bind_some,Ia (by simp)]
 rfl
theorem Vw {α}{l:List α}{k:Nat}{x:α}(h:l[k]? =some x):upd l (k:Int) x=l:=by
 apply List.ext_getElem?
 intro i
 by_cases e:k=i
 ·subst e;rw[Fo (List.getElem?_eq_some_iff.1 h).1,h]
 ·rw[Hx e]
theorem RS {N:Nat}(hN:1000000<N) {w:Aq}{b:AX}{H:Int}{W:Nat}(hH:w.s.Hour=H) (hW:W≤1000) (ho:I0 b.Places.length W w.s.Own) {p:Nat}(hp:p<b.Places.length) {e:AL}(he:gU b W p e) (hout:w.s.Out.length=W) (hm:w.moves.length≤1000000) (hs:w.sent.length≤1000000):
  ∃r l x t,Fq N w (p:Int) e=some r∧w.s.Own[p]? =some x∧e.take x=some (t,Hv x t)∧TI t x∧r.1=upd w.s.Own (p:Int) (Hv x t)∧R7 b H N W p w.s.Own w.s.Out w.moves w.sent r.1 r.2.1 r.2.2.1 r.2.2.2 l∧l=if t.sum≤0 then [] else [⟨H,(p:Int),e.to_,e.way,t⟩]:=by
 obtain⟨x,hx,hxk,hxp⟩:=ho.ix hp
 obtain⟨t,ht,hv⟩:=he.tk x hxp
 obtain⟨s1,s2,s3⟩:=hv.sub hxp
 have hgd:w.s.Own.getD p []=x:=by simp [List.getD_eq_getElem?_getD,hxk]
 have hou:Gn (upd w.s.Own (p:Int) (Hv x t))=Gn w.s.Own-t.sum:=by rw[Nq hxk,s2];omega
 unfold Fq
 rw[hx,Option.bind_some,Option.bind_some,ht,Option.bind_some,Option.bind_some,Option.bind_some,s3.total hN hW,Option.bind_some]
 by_cases h0:t.sum≤0
 ·rw[decide_eq_true h0,cond_true]
  have hz:Hv x t=x:=Ut hxp.len s3.len (R9 s3.nn h0)
  refine⟨_,[],x,t,rfl,hxk,ht,hv,rfl,?_,by rw[if_pos h0]⟩
  show R7 b H N W p w.s.Own w.s.Out w.moves w.sent (upd w.s.Own (p:Int) (Hv x t)) w.s.Out w.moves w.sent []
  rw[hz,Vw hxk]
  exact R7.nil ho hout
 ·have hm1:bN b H W p ⟨H,(p:Int),e.to_,e.way,t⟩:=⟨rfl,rfl,he.way,he.to,s3,by show 0<t.sum;omega⟩
  have hval:N4 [(⟨H,(p:Int),e.to_,e.way,t⟩:Ak)] w.s.Own:=⟨⟨x,by show w.s.Own[((p:Int)).toNat]? =_;rw[Int.toNat_natCast];exact hxk,hv⟩,trivial⟩
  have hown:upd w.s.Own (p:Int) (Hv x t)=L9 w.s.Own [(⟨H,(p:Int),e.to_,e.way,t⟩:Ak)]:=by
   show _=upd w.s.Own (p:Int) (Hv (w.s.Own.getD ((p:Int)).toNat []) t)
   rw[Int.toNat_natCast,hgd]
  rw[decide_eq_false h0,cond_false,Ia (by simp;omega),hH]
  by_cases hto:e.to_= -1
  ·obtain⟨a,ha,hal⟩:=Pk hN (p:=w.s.Out) (q:=t) (by omega) (by rw[s3.len];omega)
   rw[decide_eq_true hto,cond_true,ha,Option.bind_some]
   refine⟨_,[⟨H,(p:Int),e.to_,e.way,t⟩],x,t,rfl,hxk,ht,hv,rfl,⟨λm hm=>by rw[List.mem_singleton.1 hm];exact hm1,rfl,hown,?_,?_,hval,ho.upd _ s1,?_,?_⟩,by rw[if_neg h0]⟩
   ·show a=if e.to_<0 then (DD N w.s.Out t).getD [] else _
    rw[if_pos (by omega),ha];rfl
   ·show w.sent=w.sent++_
    rw[show ([(⟨H,(p:Int),e.to_,e.way,t⟩:Ak)].filterMap (JS b H))=[] by simp [JS,hto],List.append_nil]
   ·show a.length=W
    rw[hal,hout,s3.len,Nat.max_self]
   ·show Gn (upd _ _ _)+O2 _=_
    rw[hou];simp [O2]
  ·have hto2:=he.to.resolve_left hto
   rw[decide_eq_false hto,cond_false,Xq hN _ hto2.1 (by rw[s3.len];omega) s3.nn (by omega),Option.bind_some,Ia (by simp;omega)]
   refine⟨_,[⟨H,(p:Int),e.to_,e.way,t⟩],x,t,rfl,hxk,ht,hv,rfl,⟨λm hm=>by rw[List.mem_singleton.1 hm];exact hm1,rfl,hown,?_,?_,hval,ho.upd _ s1,hout,?_⟩,by rw[if_neg h0]⟩
   ·show w.s.Out=if e.to_<0 then _ else w.s.Out
    rw[if_neg (by omega)]
   ·show w.sent++_=w.sent++_
    congr 1
    have hlt:¬e.to_<0:=by omega
    simp only[List.filterMap_cons,List.filterMap_nil,JS,if_neg hlt,Int.toNat_natCast]
    rw[he.dl]
   ·show Gn (upd _ _ _)+O2 _=_
    rw[hou];simp [O2]
theorem Ni {N W:Nat}(hN:18446744073709551616<N) (hW:W≤64) (n:Int):∀x,PX W x→∃t,Ab N n x=some (t,Hv x t)∧TI t x∧t.sum=max 0 (min n x.sum):=λx hx=>by
 obtain⟨t,e,h1,h2⟩:=Xe hN hW hx n
 unfold Ab
 rw[e,Option.bind_some]
 exact⟨t,rfl,h1,h2⟩
theorem X1 {N W:Nat}(hN:1000000<N) (hW:W≤64) (t:IT):∀x,PX W x→∃y,DP N t x=some (y,Hv x y)∧TI y x:=λx hx=>by
 obtain⟨y,e,h1,_⟩:=X2 hN (by omega) hx t.Owner t.Litres
 unfold DP
 rw[e,Option.bind_some]
 exact⟨y,rfl,h1⟩
def XL (b:AX) (W p:Nat) (l:List AL):Prop:=∀e∈l,gU b W p e
theorem XL.snoc {b:AX}{W p:Nat}{l:List AL}(h:XL b W p l) {e:AL}(he:gU b W p e):XL b W p (l++[e]):=λx hx=>by
 rcases List.mem_append.1 hx with hx|hx
 ·exact h x hx
 ·rw[List.mem_singleton.1 hx];exact he
theorem Vh {N:Nat}(hN:18446744073709551616<N) {w:Aq}{W:Nat}(hW:W≤64) (ht:w.in_.Takes.length≤1000) {p:Nat}(hp:p<w.b.Places.length):∃l,HL N w (p:Int)=some l∧l.length≤w.in_.Takes.length∧XL w.b W p l:=by
 unfold HL
 obtain⟨l,⟨i1,i2⟩,e⟩:=DZ w.in_.Takes.length (λn i l=>Bj N w (p:Int) (CR N) n l i) (CR N) (λk l=>l.length≤k∧XL w.b W p l) (λn k l hk=>by
  simp only[Bj];rw[Eh hk];rfl) (λn k l hi hk=>by
  obtain⟨i1,i2⟩:=hi
  simp only[Bj,FC]
  rw[Ee hk,cond_true,BI hk,BF (by omega)]
  simp only[Option.bind_some,Ms,Fc]
  generalize w.in_.Takes[k]=x
  have skip:∃s',(s'.length≤k+1∧XL w.b W p s')∧Bj N w (p:Int) (CR N) n l ((k+1:Nat):Int)=Bj N w (p:Int) (CR N) n s' ((k+1:Nat):Int):=⟨l,⟨by omega,i2⟩,rfl⟩
  generalize (cond (decide (x.Place≠(p:Int))) true (!(decide (0≤x.Owner)&&decide (x.Owner<(w.b.Owners.length:Int))))||decide (x.Litres≤0))=c
  cases c
  ·rw[cond_false]
   have add1:(x.To= -1∨(0≤x.To∧x.To<w.b.Places.length))→∃s',(s'.length≤k+1∧XL w.b W p s')∧chk (Jk (l.length+1) 32) (Bj N w (p:Int) (CR N) n (l++([(⟨x.To,0,(-3),(λy=>DP N x y)⟩:AL)]:List AL)) ((k+1:Nat):Int))=Bj N w (p:Int) (CR N) n s' ((k+1:Nat):Int):=λhto=>by
    rw[Ia (by omega)]
    exact⟨_,⟨by simp;omega,i2.snoc ⟨X1 (by omega) hW x,by show(-3:Int)≠ -4;decide,hto,by show(0:Int)=O4 _ _ (-3);unfold O4;rw[if_neg (by omega),if_pos rfl]⟩⟩,rfl⟩
   by_cases hto:x.To= -1
   ·rw[show decide (x.To≠ -1)=false by simp [hto],cond_false,Option.bind_some,cond_false]
    exact add1 (.inl hto)
   ·rw[show decide (x.To≠ -1)=true by simp [hto],cond_true]
    cases hr:(decide (0≤x.To)&&decide (x.To<(w.b.Places.length:Int)))
    ·exact skip
    ·obtain⟨r1,r2⟩:=Nt.1 hr
     obtain⟨y,hy⟩:=Df.ix (l:=w.b.Places) r1 (by omega)
     rw[hy,BI hp]
     simp only[Bool.not_true,cond_false,Option.bind_some]
     cases decide (y.Office≠(w.b.Places[p]).Office)
     ·exact add1 (.inr ⟨r1,by omega⟩)
     ·exact skip
  ·exact skip) N 0 [] ⟨Nat.le_refl _,λe he=>by cases he⟩ (by omega) (Nat.zero_le _)
 exact⟨l,e,i1,i2⟩
theorem WR {N:Nat}(hN:18446744073709551616<N) {w:Aq}{W:Nat}(hW:W≤64) (hL:w.b.Links.length≤1000) (hlk:∀l∈w.b.Links,Jr w.b l) (hg:w.s.Gates.length=w.b.Links.length) (hpk:w.peaks.length=w.b.Places.length) {p:Nat}(hp:p<w.b.Places.length):∃l,HR N w (p:Int)=some l∧l.length≤w.b.Links.length∧XL w.b W p l:=by
 unfold HR
 obtain⟨l,⟨i1,i2⟩,e⟩:=DZ w.b.Links.length (λn i l=>Be N w (p:Int) (Ci N) n l i) (Ci N) (λk l=>l.length≤k∧XL w.b W p l) (λn k l hk=>by
  simp only[Be];rw[Eh hk];rfl) (λn k l hi hk=>by
  obtain⟨i1,i2⟩:=hi
  have ok:=hlk _ (List.getElem_mem hk)
  have hgk:k<w.s.Gates.length:=by omega
  have hpp:p<w.peaks.length:=by omega
  have hdl:O4 w.b p (k:Int)=(w.b.Links[k]).Delay:=by
   unfold O4
   rw[if_pos ⟨by omega,by omega⟩,Int.toNat_natCast,Pq hk]
  simp only[Be,GD,C4,Fx]
  rw[Ee hk,cond_true,BI hk,Option.bind_some,BF (by omega)]
  simp only[BI hgk,BI hpp,Option.bind_some]
  generalize w.b.Links[k]=x at ok hdl
  have add1:∀(n':Int) (to:Int),(to= -1∨(0≤to∧to<w.b.Places.length))→∃s',(s'.length≤k+1∧XL w.b W p s')∧chk (Jk (l.length+([(⟨to,x.Delay,(k:Int),(λx=>Ab N n' x)⟩:AL)]:List AL).length) 32) (Be N w (p:Int) (Ci N) n (l++([(⟨to,x.Delay,(k:Int),(λx=>Ab N n' x)⟩:AL)]:List AL)) ((k+1:Nat):Int))=Be N w (p:Int) (Ci N) n s' ((k+1:Nat):Int):=λn' to hto=>by
   rw[Ia (by simp;omega)]
   exact⟨_,⟨by simp;omega,i2.snoc ⟨λy hy=>by obtain⟨t,e,h,_⟩:=Ni hN hW n' y hy;exact⟨t,e,h⟩,by show(k:Int)≠ -4;omega,hto,hdl.symm⟩⟩,rfl⟩
  have pkI:∀i:Int,0≤i→i<w.b.Places.length→∃y,ix w.peaks i=some y:=λi h0 h1=>Df.ix h0 (by omega)
  obtain⟨f0,hf0⟩:=pkI x.From ok.fr.1 ok.fr.2
  cases hA:(decide (x.From=(p:Int))&&decide (x.Kind≠4))
  ·rw[cond_false]
   cases hB:decide (x.From=(p:Int))
   ·rw[cond_false]
    cases hC:(decide (x.To=(p:Int))&&decide (x.Kind=4))
    ·exact⟨l,⟨by omega,i2⟩,rfl⟩
    ·obtain⟨a,ha⟩:=T5 hN x f0 w.peaks[p]
     obtain⟨b,hb⟩:=PV N 0 a
     rw[cond_true]
     simp only[hf0,Option.bind_some]
     rw[ha,Option.bind_some,hb,Option.bind_some]
     exact add1 _ _ (.inr ok.fr)
   ·have hB:=of_decide_eq_true hB
    have h4:x.Kind=4:=by
     rw[decide_eq_true hB,Bool.true_and] at hA
     simpa using hA
    obtain⟨_,_,_,_,_,hto⟩:=ok.seep h4
    have hto:=ok.to.resolve_left hto
    obtain⟨t0,ht0⟩:=pkI x.To hto.1 hto.2
    obtain⟨a,ha⟩:=T5 hN x w.peaks[p] t0
    rw[cond_true]
    simp only[ht0,Option.bind_some]
    rw[ha,Option.bind_some]
    exact add1 _ _ ok.to
  ·rw[cond_true]
   cases hT:decide (x.To≠ -1)
   ·obtain⟨a,ha⟩:=UO hN x w.s.Gates[k] w.peaks[p] 0
    rw[cond_false,ha,Option.bind_some]
    exact add1 _ _ ok.to
   ·have hT:=of_decide_eq_true hT
    have hto:=ok.to.resolve_left hT
    obtain⟨t0,ht0⟩:=pkI x.To hto.1 hto.2
    obtain⟨a,ha⟩:=UO hN x w.s.Gates[k] w.peaks[p] t0
    rw[cond_true]
    simp only[ht0,Option.bind_some]
    rw[ha,Option.bind_some]
    exact add1 _ _ ok.to) N 0 [] ⟨Nat.le_refl _,λe he=>by cases he⟩ (by omega) (Nat.zero_le _)
 exact⟨l,e,i1,i2⟩
end Go.Proofs.YtblcgjadhemlbaaGreat
