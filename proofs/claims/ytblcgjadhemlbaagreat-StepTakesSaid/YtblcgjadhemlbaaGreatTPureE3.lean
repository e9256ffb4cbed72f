import Derived.Test.YtblcgjadhemlbaaGreatTPureEz
import Derived.Test.YtblcgjadhemlbaaGreatTPureEx
namespace Go.Proofs.YtblcgjadhemlbaaGreat
open Go.RowKit
set_option linter.unusedVariables false
set_option linter.unusedSimpArgs false
def Lq (W:Nat) (t:Int) (q:List Av) (p:Nat):List Int:=(q.filter λl=>decide (l.At≤t)&&decide (l.To=(p:Int))).foldl (λa l=>Fg a l.Part) (List.replicate W 0)
def OY (t:Int) (q:List Av):List Av:=q.filter λl=>decide (t<l.At)
theorem Mz {W:Nat}{t:Int}{q:List Av}{p k:Nat}(h:k<q.length):Lq W t (q.take (k+1)) p=if (q[k]).At≤t∧(q[k]).To=(p:Int) then Fg (Lq W t (q.take k) p) (q[k]).Part else Lq W t (q.take k) p:=by
 unfold Lq
 rw[List.take_succ_eq_append_getElem h,List.filter_append,List.foldl_append]
 by_cases h1:(q[k]).At≤t∧(q[k]).To=(p:Int)
 ·rw[if_pos h1];simp [h1.1,h1.2]
 ·rw[if_neg h1]
  have:(decide ((q[k]).At≤t)&&decide ((q[k]).To=(p:Int)))=false:=by
   rw[Bool.and_eq_false_iff]
   simp only[decide_eq_false_iff_not]
   by_cases h2:(q[k]).At≤t
   ·exact .inr λh3=>h1 ⟨h2,h3⟩
   ·exact .inl h2
  simp [this]
theorem Pk {t:Int}{q:List Av}{k:Nat}(h:k<q.length):OY t (q.take (k+1))=if (q[k]).At≤t then OY t (q.take k) else OY t (q.take k)++[q[k]]:=by
 unfold OY
 rw[List.take_succ_eq_append_getElem h,List.filter_append]
 by_cases h1:(q[k]).At≤t
 ·rw[if_pos h1];simp;omega
 ·rw[if_neg h1]
  have:t<(q[k]).At:=by omega
  simp [this]
theorem WQ (a b:List Av):HY (a++b)=HY a+HY b:=by unfold HY;rw[List.map_append,List.sum_append]
structure kQ (P W:Nat) (t:Int) (q:List Av) (k:Nat) (s:List Av×List (List Int)):Prop where
 rest:s.1=OY t (q.take k)
 own:I1 P W s.2
 at_:∀p,p<P→s.2[p]? =some (Lq W t (q.take k) p)
 tot:Fy s.2+HY s.1=HY (q.take k)
theorem Sn (W:Nat):∀P:Nat,Fy (List.replicate P (List.replicate W 0))=0
 |0=>rfl
 |P+1=>by
  have:=Sn W P
  unfold Fy at this ⊢
  rw[List.replicate_succ,List.map_cons,List.sum_cons,this,UM];rfl
theorem aL {N:Nat}(hN:1000000<N) {P W:Nat}(hP:P≤64) (hW:W≤16) {q:List Av}(hq:q.length≤1000) (hqx:QX P W q) (hqs:HY q≤1125899906842624) (t:Int):
  ∃s,J2 N q t (P:Int) (W:Int)=some (s.2,s.1)∧kQ P W t q q.length s:=by
 unfold J2
 rw[Nx,Option.bind_some,Nx,Option.bind_some,if_neg (show ¬(P:Int)<0 by omega),if_neg (show ¬64<(P:Int) by omega),if_neg (show ¬(W:Int)<0 by omega),if_neg (show ¬16<(W:Int) by omega),Jd (by omega) _ (by decide)]
 obtain⟨o,⟨i1,i2⟩,e⟩:=D8 P (λn i l=>FV N (P:Int) (W:Int) (FW N q t (P:Int)) n i l) (FW N q t (P:Int)) (λk (l:List (List Int))=>l.length=P∧∀i,i<k→l[i]? =some (List.replicate W 0)) (λn k l hk=>by
  simp only[FV];rw[Ni,E0 hk];rfl) (λn k l hi hk=>by
  simp only[FV]
  have hkl:k<l.length:=by rw[hi.1];exact hk
  rw[Ni,Eu hk,cond_true,Jd (by omega) _ (by decide),BH hkl,Option.bind_some,Option.bind_some,BL (by omega)]
  refine⟨_,⟨by rw[L3];exact hi.1,λi hik=>?_⟩,rfl⟩
  by_cases hne:k=i
  ·subst hne;rw[Fi hkl];rfl
  ·rw[Hr hne];exact hi.2 i (by omega)) N 0 (List.replicate ((P:Int)).toNat ([]:List Int)) ⟨Ni _ _,λi hi=>by omega⟩ (by omega) (Nat.zero_le _)
 rw[show FV N (P:Int) (W:Int) (FW N q t (P:Int)) N 0 _=FW N q t (P:Int) o from e]
 have ho:o=List.replicate P (List.replicate W 0):=List.ext_getElem? λi=>by
  rcases Nat.lt_or_ge i P with h|h
  ·rw[i2 i h,List.getElem?_replicate,if_pos h]
  ·rw[List.getElem?_eq_none (by omega),List.getElem?_eq_none (by simp;omega)]
 have hox:I1 P W o:=⟨i1,λx hx=>by rw[ho] at hx;rw[(List.mem_replicate.1 hx).2];exact PX.zero W⟩
 unfold FW
 obtain⟨s,i3,e2⟩:=D8 q.length (λn i (s:List Av×List (List Int))=>El N q t (P:Int) (Gr N) n s.1 i s.2) (λs=>Gr N s.1 s.2) (λk s=>kQ P W t q k s) (λn k s hk=>by
  simp only[El];rw[E0 hk];rfl) (λn k s hi hk=>by
  obtain⟨rs,o⟩:=s
  obtain⟨j1,j2,j3,j4⟩:=hi
  simp only at j1 j2 j3 j4
  obtain⟨x1,x2,x3⟩:=hqx _ (List.getElem_mem hk)
  have h2:=Hs hqx (k+1)
  rw[Jc hk] at h2
  have hrl:rs.length≤k:=by rw[j1];exact Nat.le_trans (List.length_filter_le _ _) (by rw[List.length_take];omega)
  have hr0:0≤HY rs:=by
   rw[j1]
   exact RS λl hl=>(hqx l (List.mem_of_mem_take ((List.mem_filter.1 hl).1))).1.sum0
  simp only[El,IW]
  rw[Eu hk,cond_true,BH hk,Option.bind_some,BL (by omega),decide_eq_true x2,decide_eq_true x3,Bool.and_true,Bool.and_true]
  by_cases ht:(q[k]).At≤t
  ·obtain⟨j,hj,hjl⟩:=cD (l:=o) x2 (by rw[j2.len];exact x3)
   obtain⟨y,hy,hyk,hyp⟩:=j2.ix (k:=j) (by rw[←j2.len];exact hjl)
   have hys:=j2.le hyk
   have hadd:=hyp.add x1 (by omega)
   rw[decide_eq_true ht,cond_true,hj,hy,Option.bind_some,Option.bind_some,hyp.padd hN (by omega) x1,Option.bind_some,Option.bind_some,Option.bind_some]
   refine⟨(_,_),⟨by rw[Pk hk,if_pos ht];exact j1,j2.upd _ hadd,λp hp=>?_,?_⟩,rfl⟩
   ·show(upd o (j:Int) _)[p]? =_
    rw[Mz hk]
    by_cases hpj:j=p
    ·subst hpj
     rw[Fi hjl,if_pos ⟨ht,hj⟩]
     rw[j3 j hp] at hyk
     rw[Option.some.inj hyk]
    ·rw[Hr hpj,if_neg (by rw[hj];omega)];exact j3 p hp
   ·show Fy (upd o (j:Int) _)+HY rs=_
    rw[Nl hyk,Js (hyp.len.trans x1.len.symm),Jc hk]
    omega
  ·rw[decide_eq_false ht,cond_false,Kc N (by rw[x1.len];omega),Option.bind_some,Jb (by simp;omega)]
   refine⟨(_,_),⟨by rw[Pk hk,if_neg ht,←j1],j2,λp hp=>?_,?_⟩,rfl⟩
   ·rw[Mz hk,if_neg λh=>ht h.1];exact j3 p hp
   ·show Fy o+HY (rs++[_])=_
    rw[WQ,Jc hk]
    simp only[HY,List.map_cons,List.map_nil,List.sum_cons,List.sum_nil] at j4 ⊢
    omega) N 0 ([],o) ⟨rfl,hox,λp hp=>by
   show o[p]? =_
   rw[i2 p hp];rfl,by
   show Fy o+HY []=HY (q.take 0)
   rw[ho,Sn];rfl⟩ (by omega) (Nat.zero_le _)
 exact⟨s,e2,i3⟩
structure ArX (w:An) (W:Nat) (r:List (List Int)×List Av×List Ax×List Int):Prop where
 own:I1 w.b.Places.length W r.1
 at_:∀(p:Nat) x,w.s.Own[p]? =some x→r.1[p]? =some (Fg x (Lq W w.s.Hour w.s.Queue p))
 rest:r.2.1=OY w.s.Hour w.s.Queue
 pk:r.2.2.2=r.1.map List.sum
 tot:Fy r.1+HY r.2.1=Fy w.s.Own+HY w.s.Queue
theorem aZ {N:Nat}(hN:1000000<N) {w:An}{W:Nat}(hW:w.b.Owners.length=W) (h16:W≤16) (hP:w.b.Places.length≤64) (hL:w.b.Links.length≤96) (hlk:∀l∈w.b.Links,Jf w.b l) (ho:I1 w.b.Places.length W w.s.Own) (hq:w.s.Queue.length≤1000) (hqx:QX w.b.Places.length W w.s.Queue) (ht:Fy w.s.Own+HY w.s.Queue≤1125899906842624) (hpk:w.peaks.length=w.b.Places.length) (hg:w.s.Gates.length=w.b.Links.length):
  ∃r,F9 N w=some r∧ArX w W r∧r.2.2.1.length=w.b.Links.length:=by
 have ho0:=ho.sum0
 have hq0:=(Hs hqx 0).2
 rw[List.take_zero,show HY ([]:List Av)=0 from rfl] at hq0
 unfold F9
 rw[hW]
 obtain⟨⟨rs,ar⟩,hy,⟨y1,y2,y3,y4⟩⟩:=aL hN hP h16 hq hqx (by omega) w.s.Hour
 simp only at y1 y2 y3 y4 hy
 rw[List.take_length] at y1 y3 y4
 rw[hy,Option.bind_some]
 have hrs0:0≤HY rs:=by
  rw[y1]
  exact RS λl hl=>(hqx l ((List.mem_filter.1 hl).1)).1.sum0
 have har0:=y2.sum0
 obtain⟨⟨o,pk⟩,⟨i1,i2,i3,i4,i5,i6⟩,e⟩:=D8 w.b.Places.length (λn i (s:List (List Int)×List Int)=>CU N w (ar,rs) (CV N w (ar,rs)) n i s.1 s.2) (λs=>CV N w (ar,rs) s.1 s.2) (λk s=>I1 w.b.Places.length W s.1∧s.2.length=w.b.Places.length∧(∀(p:Nat) x,p<k→w.s.Own[p]? =some x→s.1[p]? =some (Fg x (Lq W w.s.Hour w.s.Queue p)))∧(∀p,k≤p→s.1[p]? =w.s.Own[p]?)∧(∀(p:Nat) x,p<k→s.1[p]? =some x→s.2[p]? =some x.sum)∧Fy s.1=Fy w.s.Own+Fy (ar.take k)) (λn k s hk=>by
  simp only[CU];rw[E0 hk];rfl) (λn k s hi hk=>by
  obtain⟨o,pk⟩:=s
  obtain⟨i1,i2,i3,i4,i5,i6⟩:=hi
  simp only at i1 i2 i3 i4 i5 i6
  obtain⟨a,ha,hak,hap⟩:=i1.ix hk
  obtain⟨c,hc,hck,hcp⟩:=y2.ix hk
  have hcl:k<ar.length:=by rw[y2.len];exact hk
  have hce:ar[k]=c:=by rw[List.getElem?_eq_getElem hcl] at hck;exact Option.some.inj hck
  have t1:=Lg y2 (k+1)
  rw[LO hcl,hce] at t1
  have t2:=i1.le hak
  have hd:=hap.add hcp (by omega)
  have hul:k<(upd o (k:Int) (Fg a c)).length:=by rw[L3,i1.len];exact hk
  simp only[CU]
  rw[Eu hk,cond_true,BL (by omega),ha,Option.bind_some,Option.bind_some,hc,Option.bind_some,Option.bind_some,hap.padd hN (by omega) hcp,Option.bind_some,Option.bind_some,Option.bind_some]
  have hix:ix (upd o (k:Int) (Fg a c)) (k:Int)=some (Fg a c):=by
   rw[BH hul]
   have:=Fi (l:=o) (k:=k) (by rw[i1.len];exact hk) (Fg a c)
   rw[List.getElem?_eq_getElem hul] at this
   exact this
  rw[hix,Option.bind_some,Option.bind_some,hd.total hN (by omega),Option.bind_some,BH (show k<pk.length by omega),Option.bind_some,Option.bind_some]
  refine⟨(_,_),⟨i1.upd _ hd,by show(upd pk _ _).length=_;rw[L3];exact i2,λp x hp hx=>?_,λp hp=>?_,λp x hp hx=>?_,?_⟩,rfl⟩
  ·show(upd o (k:Int) _)[p]? =_
   by_cases hpk:k=p
   ·subst hpk
    rw[Fi (by rw[i1.len];exact hk)]
    rw[i4 k (Nat.le_refl _),hx] at hak
    cases hak
    rw[y3 k hk] at hck
    rw[Option.some.inj hck]
   ·rw[Hr hpk];exact i3 p x (by omega) hx
  ·show(upd o (k:Int) _)[p]? =_
   rw[Hr (by omega)];exact i4 p (by omega)
  ·change (upd o (k:Int) (Fg a c))[p]? =some x at hx
   show(upd pk (k:Int) _)[p]? =_
   by_cases hpk:k=p
   ·subst hpk
    rw[Fi (by rw[i1.len];exact hk)] at hx
    rw[Fi (by omega),Option.some.inj hx]
   ·rw[Hr hpk] at hx ⊢;exact i5 p x (by omega) hx
  ·show Fy (upd o (k:Int) _)=_
   rw[Nl hak,Js (hap.len.trans hcp.len.symm),LO hcl,hce,i6]
   omega) N 0 (w.s.Own,w.peaks) ⟨ho,hpk,λp x hp=>by omega,λp _=>rfl,λp x hp=>by omega,by simp [Fy]⟩ (by omega) (Nat.zero_le _)
 rw[show CU N w (ar,rs) (CV N w (ar,rs)) N 0 w.s.Own w.peaks=CV N w (ar,rs) o pk from e]
 simp only at i1 i2 i3 i4 i5 i6
 have hat:ar.take w.b.Places.length=ar:=by rw[←y2.len,List.take_length]
 rw[hat] at i6
 unfold CV
 obtain⟨gs,j1,e2⟩:=D8 w.b.Links.length (λn i s=>CM N w (ar,rs) o pk n i s) (λs=>some (o,rs,s,pk)) (λi s=>s.length=w.b.Links.length) (λn k s hk=>by
  simp only[CM];rw[E0 hk];rfl) (λn i s hi hk=>by
  simp only[CM,E8]
  have ok:=hlk _ (List.getElem_mem hk)
  rw[Eu hk,cond_true,BH hk,Option.bind_some,BL (by omega)]
  cases decide ((w.b.Links[i]).Kind=3)
  ·exact⟨s,hi,rfl⟩
  ·rw[cond_true,BH (show i<s.length by omega),Option.bind_some,Option.bind_some,Z7 ok.fr.1 (by rw[i2];exact ok.fr.2),Option.bind_some,Option.bind_some,(eG N _ _ _).1,Option.bind_some,Option.bind_some,Option.bind_some]
   exact⟨_,by rw[L3];exact hi,rfl⟩) N 0 w.s.Gates hg (by omega) (Nat.zero_le _)
 refine⟨_,e2,⟨i1,λp x hx=>i3 p x ?_ hx,y1,?_,?_⟩,j1⟩
 ·rw[←ho.len];exact(List.getElem?_eq_some_iff.1 hx).1
 ·show pk=o.map List.sum
  apply List.ext_getElem?
  intro p
  rcases Nat.lt_or_ge p w.b.Places.length with h|h
  ·obtain⟨x,_,hx,_⟩:=i1.ix h
   rw[i5 p x h hx,List.getElem?_map,hx];rfl
  ·rw[List.getElem?_eq_none (by omega),List.getElem?_eq_none (by rw[List.length_map,i1.len];omega)]
 ·show Fy o+HY rs=_
  omega
end Go.Proofs.YtblcgjadhemlbaaGreat
namespace Go.Proofs.YtblcgjadhemlbaaGreat
open Go.RowKit
set_option linter.unusedVariables false
set_option linter.unusedSimpArgs false
def QS (b:AW) (p:Nat) (way:Int):Int:=if 0≤way∧way<b.Links.length then (UW b way.toNat).Delay else if way= -3 then 0 else (b.Places.getD p default).Delay
structure cC (b:AW) (W p:Nat) (e:AK):Prop where
 tk:∀x,PX W x→∃t,e.take x=some (t,H4 x t)∧TP t x
 way:e.way≠ -4
 to:e.to_= -1∨(0≤e.to_∧e.to_<b.Places.length)
 dl:e.delay=QS b p e.way
structure kA (b:AW) (H:Int) (W p:Nat) (m:Ah):Prop where
 hour:m.Hour=H
 fr:m.From=(p:Int)
 way:m.Way≠ -4
 to:m.To= -1∨(0≤m.To∧m.To<b.Places.length)
 px:PX W m.Part
 pos:0<m.Part.sum
def OX (b:AW) (H:Int) (m:Ah):Option Av:=if m.To<0 then none else some ⟨BM (BM (H+1)+QS b m.From.toNat m.Way),m.To,m.Part⟩
def YE (N:Nat) (out:List Int) (ms:List Ah):List Int:=ms.foldl (λo m=>if m.To<0 then (GN N o m.Part).getD [] else o) out
def RP (o:List (List Int)) (ms:List Ah):List (List Int):=ms.foldl (λo m=>upd o m.From (H4 (o.getD m.From.toNat []) m.Part)) o
def O2:List Ah→List (List Int)→Prop
 |[],_=>True
 |m::ms,o=>(∃x,o[m.From.toNat]? =some x∧TP m.Part x)∧O2 ms (upd o m.From (H4 (o.getD m.From.toNat []) m.Part))
def Oz (ms:List Ah):Int:=(ms.map λm=>m.Part.sum).sum
theorem O2.app:∀{l1 l2:List Ah}{o:List (List Int)},O2 l1 o→O2 l2 (RP o l1)→O2 (l1++l2) o
 |[],_,_,_,h=>h
 |m::l1,l2,o,h1,h2=>⟨h1.1,O2.app (l1:=l1) h1.2 h2⟩
structure SA (b:AW) (H:Int) (N W p:Nat) (o:List (List Int)) (out:List Int) (ms:List Ah) (sn:List Av) (o':List (List Int)) (out':List Int) (ms':List Ah) (sn':List Av) (l:List Ah):Prop where
 mv:∀m∈l,kA b H W p m
 ms_:ms'=ms++l
 own:o'=RP o l
 out_:out'=YE N out l
 sn_:sn'=sn++l.filterMap (OX b H)
 val:O2 l o
 ox:I1 b.Places.length W o'
 ol:out'.length=W
 tot:Fy o'+Oz l=Fy o
theorem SA.nil {b:AW}{H:Int}{N W p:Nat}{o:List (List Int)}{out:List Int}{ms:List Ah}{sn:List Av}(ho:I1 b.Places.length W o) (hl:out.length=W):SA b H N W p o out ms sn o out ms sn []:=
 ⟨λm hm=>(by cases hm),by simp,rfl,rfl,by simp,trivial,ho,hl,by simp [Oz]⟩
theorem Sq (a b:List Ah):Oz (a++b)=Oz a+Oz b:=by unfold Oz;rw[List.map_append,List.sum_append]
theorem SA.trans {b:AW}{H:Int}{N W p:Nat}{o o' o'':List (List Int)}{out out' out'':List Int}{ms ms' ms'':List Ah}{sn sn' sn'':List Av}{l l':List Ah}(h:SA b H N W p o out ms sn o' out' ms' sn' l) (k:SA b H N W p o' out' ms' sn' o'' out'' ms'' sn'' l'):SA b H N W p o out ms sn o'' out'' ms'' sn'' (l++l'):=
 ⟨λm hm=>(List.mem_append.1 hm).elim (h.mv m) (k.mv m),by rw[k.ms_,h.ms_,List.append_assoc],by rw[k.own,h.own];unfold RP;rw[List.foldl_append],by rw[k.out_,h.out_];unfold YE;rw[List.foldl_append],by rw[k.sn_,h.sn_,List.filterMap_append,List.append_assoc],h.val.app (by rw[←h.own];exact k.val),k.ox,k.ol,by rw[Sq];have:=h.tot;have:=k.tot;omega⟩
theorem X9 {N:Nat}(hN:1000000<N) (t:Int) {to:Int}(h0:0≤to) {p:List Int}(hp:p.length≤1000) (hnn:∀x∈p,0≤x) (hs:0<p.sum):JN N t to p=some [⟨t,to,p⟩]:=by
 obtain⟨i,hi,hip⟩:∃(i:Nat) (h:i<p.length),0<p[i]:=by
  apply Classical.byContradiction
  intro hn
  have:p.sum≤p.length*0:=Ja λx hx=>by
   obtain⟨i,hi,rfl⟩:=List.mem_iff_getElem.1 hx
   have:=hn
   apply Classical.byContradiction
   intro h
   exact hn ⟨i,hi,by omega⟩
  omega
 have hc:∃j:Int,0≤j∧D9 N p (λx=>Gq N x)=some j:=by
  unfold D9
  have:∀(n k:Nat),p.length<n+k→k≤i→∃j:Int,0≤j∧CS N p (λx=>Gq N x) (DZ N) n (k:Int)=some j:=by
   intro n
   induction n with
   |zero=>intro k h1 h2;omega
   |succ n ih=>
    intro k h1 h2
    have hk:k<p.length:=by omega
    simp only[CS,Gq]
    rw[Eu hk,cond_true,BH hk,BL (by omega),Option.bind_some,Option.bind_some]
    by_cases h:0<p[k]
    ·rw[decide_eq_true h];exact⟨(k:Int),by omega,rfl⟩
    ·rw[decide_eq_false h,cond_false]
     have:k≠i:=λe=>by subst e;exact h hip
     exact ih (k+1) (by omega) (by omega)
  exact this N 0 (by omega) (Nat.zero_le _)
 obtain⟨j,hj0,hj⟩:=hc
 unfold JN Ec
 rw[hj,decide_eq_false (show ¬to<0 by omega),cond_false,Option.bind_some,Option.bind_some,decide_eq_true hj0,Bool.not_true,Option.bind_some,cond_false,Kc N (by omega),Option.bind_some,Jb (by simp)]
 rfl
theorem WE {α}{l:List α}{k:Nat}{x:α}(h:l[k]? =some x):upd l (k:Int) x=l:=by
 apply List.ext_getElem?
 intro i
 by_cases e:k=i
 ·subst e;rw[Fi (List.getElem?_eq_some_iff.1 h).1,h]
 ·rw[Hr e]
theorem RU {N:Nat}(hN:1000000<N) {w:An}{b:AW}{H:Int}{W:Nat}(hH:w.s.Hour=H) (hW:W≤1000) (ho:I1 b.Places.length W w.s.Own) {p:Nat}(hp:p<b.Places.length) {e:AK}(he:cC b W p e) (hout:w.s.Out.length=W) (hm:w.moves.length≤1000000) (hs:w.sent.length≤1000000):
  ∃r l x t,Fk N w (p:Int) e=some r∧w.s.Own[p]? =some x∧e.take x=some (t,H4 x t)∧TP t x∧r.1=upd w.s.Own (p:Int) (H4 x t)∧SA b H N W p w.s.Own w.s.Out w.moves w.sent r.1 r.2.1 r.2.2.1 r.2.2.2 l∧l=if t.sum≤0 then [] else [⟨H,(p:Int),e.to_,e.way,t⟩]:=by
 obtain⟨x,hx,hxk,hxp⟩:=ho.ix hp
 obtain⟨t,ht,hv⟩:=he.tk x hxp
 obtain⟨s1,s2,s3⟩:=hv.sub hxp
 have hgd:w.s.Own.getD p []=x:=by simp [List.getD_eq_getElem?_getD,hxk]
 have hou:Fy (upd w.s.Own (p:Int) (H4 x t))=Fy w.s.Own-t.sum:=by rw[Nl hxk,s2];omega
 unfold Fk
 rw[hx,Option.bind_some,Option.bind_some,ht,Option.bind_some,Option.bind_some,Option.bind_some,s3.total hN hW,Option.bind_some]
 by_cases h0:t.sum≤0
 ·rw[decide_eq_true h0,cond_true]
  have hz:H4 x t=x:=U8 hxp.len s3.len (SG s3.nn h0)
  refine⟨_,[],x,t,rfl,hxk,ht,hv,rfl,?_,by rw[if_pos h0]⟩
  show SA b H N W p w.s.Own w.s.Out w.moves w.sent (upd w.s.Own (p:Int) (H4 x t)) w.s.Out w.moves w.sent []
  rw[hz,WE hxk]
  exact SA.nil ho hout
 ·have hm1:kA b H W p ⟨H,(p:Int),e.to_,e.way,t⟩:=⟨rfl,rfl,he.way,he.to,s3,by show 0<t.sum;omega⟩
  have hval:O2 [(⟨H,(p:Int),e.to_,e.way,t⟩:Ah)] w.s.Own:=⟨⟨x,by show w.s.Own[((p:Int)).toNat]? =_;rw[Int.toNat_natCast];exact hxk,hv⟩,trivial⟩
  have hown:upd w.s.Own (p:Int) (H4 x t)=RP w.s.Own [(⟨H,(p:Int),e.to_,e.way,t⟩:Ah)]:=by
   show _=upd w.s.Own (p:Int) (H4 (w.s.Own.getD ((p:Int)).toNat []) t)
   rw[Int.toNat_natCast,hgd]
  rw[decide_eq_false h0,cond_false,Jb (by simp;omega),hH]
  by_cases hto:e.to_= -1
  ·obtain⟨a,ha,hal⟩:=WT hN (p:=w.s.Out) (q:=t) (by omega) (by rw[s3.len];omega)
   rw[decide_eq_true hto,cond_true,ha,Option.bind_some]
   refine⟨_,[⟨H,(p:Int),e.to_,e.way,t⟩],x,t,rfl,hxk,ht,hv,rfl,⟨λm hm=>by rw[List.mem_singleton.1 hm];exact hm1,rfl,hown,?_,?_,hval,ho.upd _ s1,?_,?_⟩,by rw[if_neg h0]⟩
   ·show a=if e.to_<0 then (GN N w.s.Out t).getD [] else _
    rw[if_pos (by omega),ha];rfl
   ·show w.sent=w.sent++_
    rw[show ([(⟨H,(p:Int),e.to_,e.way,t⟩:Ah)].filterMap (OX b H))=[] by simp [OX,hto],List.append_nil]
   ·show a.length=W
    rw[hal,hout,s3.len,Nat.max_self]
   ·show Fy (upd _ _ _)+Oz _=_
    rw[hou];simp [Oz]
  ·have hto2:=he.to.resolve_left hto
   rw[decide_eq_false hto,cond_false,X9 hN _ hto2.1 (by rw[s3.len];omega) s3.nn (by omega),Option.bind_some,Jb (by simp;omega)]
   refine⟨_,[⟨H,(p:Int),e.to_,e.way,t⟩],x,t,rfl,hxk,ht,hv,rfl,⟨λm hm=>by rw[List.mem_singleton.1 hm];exact hm1,rfl,hown,?_,?_,hval,ho.upd _ s1,hout,?_⟩,by rw[if_neg h0]⟩
   ·show w.s.Out=if e.to_<0 then _ else w.s.Out
    rw[if_neg (by omega)]
   ·show w.sent++_=w.sent++_
    congr 1
    have hlt:¬e.to_<0:=by omega
    simp only[List.filterMap_cons,List.filterMap_nil,OX,if_neg hlt,Int.toNat_natCast]
    rw[he.dl]
   ·show Fy (upd _ _ _)+Oz _=_
    rw[hou];simp [Oz]
theorem Nc {N W:Nat}(hN:18446744073709551616<N) (hW:W≤64) (n:Int):∀x,PX W x→∃t,Ab N n x=some (t,H4 x t)∧TP t x∧t.sum=max 0 (min n x.sum):=λx hx=>by
 obtain⟨t,e,h1,h2⟩:=Xy hN hW hx n
 unfold Ab
 rw[e,Option.bind_some]
 exact⟨t,rfl,h1,h2⟩
theorem YN {N W:Nat}(hN:1000000<N) (hW:W≤64) (t:FK):∀x,PX W x→∃y,CO N t x=some (y,H4 x y)∧TP y x:=λx hx=>by
 obtain⟨y,e,h1,_⟩:=Uf hN (by omega) hx t.Owner t.Litres
 unfold CO
 rw[e,Option.bind_some]
 exact⟨y,rfl,h1⟩
def XL (b:AW) (W p:Nat) (l:List AK):Prop:=∀e∈l,cC b W p e
theorem XL.snoc {b:AW}{W p:Nat}{l:List AK}(h:XL b W p l) {e:AK}(he:cC b W p e):XL b W p (l++[e]):=λx hx=>by
 rcases List.mem_append.1 hx with hx|hx
 ·exact h x hx
 ·rw[List.mem_singleton.1 hx];exact he
end Go.Proofs.YtblcgjadhemlbaaGreat
namespace Go.Proofs.YtblcgjadhemlbaaGreat
open Go.RowKit
set_option linter.unusedVariables false
set_option linter.unusedSimpArgs false
structure Xe (W:Nat) (out:List Int) (ms:List Ah) (sn:List Av) (M:Nat):Prop where
 out:out.length=W
 mv:ms.length≤M
 sn:sn.length≤M
theorem Xe.next {b:AW}{H:Int}{N W p M:Nat}{o o':List (List Int)}{out out':List Int}{ms ms':List Ah}{sn sn':List Av}{l:List Ah}(h:Xe W out ms sn M) (k:SA b H N W p o out ms sn o' out' ms' sn' l) {c:Nat}(hl:l.length≤c):Xe W out' ms' sn' (M+c):=
 ⟨k.ol,by rw[k.ms_,List.length_append];have:=h.mv;omega,by
  rw[k.sn_,List.length_append]
  have:=List.length_filterMap_le (OX b H) l
  have:=h.sn
  omega⟩
theorem Xe.le {W M M':Nat}{out:List Int}{ms:List Ah}{sn:List Av}(h:Xe W out ms sn M) (hM:M≤M'):Xe W out ms sn M':=⟨h.out,Nat.le_trans h.mv hM,Nat.le_trans h.sn hM⟩
theorem RY {α}{c:Prop}[Decidable c] {x:α}:(if c then [] else [x]).length≤1:=by split<;>simp
structure iP (b:AW) (s:Am):Prop where
 own:I1 b.Places.length b.Owners.length s.Own
 que:QX b.Places.length b.Owners.length s.Queue
 tot:Fy s.Own+HY s.Queue≤1125899906842624
 rem:s.Rem.length=b.Places.length
 gates:s.Gates.length=b.Links.length
 inn:s.In.length=b.Owners.length
 inn0:∀x∈s.In,0≤x
 inns:s.In.sum≤1152921504606846976
 out:s.Out.length=b.Owners.length
structure iB (b:AW) (H:Int) (N W k:Nat) (o:List (List Int)) (out:List Int) (ms:List Ah) (o':List (List Int)) (out':List Int) (ms':List Ah) (sn':List Av) (l:List Ah):Prop where
 mv:∀m∈l,∃p,p<k∧kA b H W p m
 ord:l.Pairwise λa c=>a.From≤c.From
 ms_:ms'=ms++l
 own:o'=RP o l
 out_:out'=YE N out l
 sn_:sn'=l.filterMap (OX b H)
 val:O2 l o
 ox:I1 b.Places.length W o'
 ol:out'.length=W
 tot:Fy o'+Oz l=Fy o
theorem iB.next {b:AW}{H:Int}{N W k:Nat}{o o' o'':List (List Int)}{out out' out'':List Int}{ms ms' ms'':List Ah}{sn' sn'':List Av}{l l':List Ah}(h:iB b H N W k o out ms o' out' ms' sn' l) (q:SA b H N W k o' out' ms' sn' o'' out'' ms'' sn'' l'):iB b H N W (k+1) o out ms o'' out'' ms'' sn'' (l++l'):=
 ⟨λm hm=>(List.mem_append.1 hm).elim (λhm=>by obtain⟨p,h1,h2⟩:=h.mv m hm;exact⟨p,by omega,h2⟩) (λhm=>⟨k,by omega,q.mv m hm⟩),
  List.pairwise_append.2 ⟨h.ord,List.pairwise_iff_getElem.2 λi j hi hj _=>by
  rw[(q.mv _ (List.getElem_mem hi)).fr,(q.mv _ (List.getElem_mem hj)).fr];exact Int.le_refl _,λa ha c hc=>by
  obtain⟨p,h1,h2⟩:=h.mv a ha
  rw[h2.fr,(q.mv c hc).fr];omega⟩,
  by rw[q.ms_,h.ms_,List.append_assoc],by rw[q.own,h.own];unfold RP;rw[List.foldl_append],by rw[q.out_,h.out_];unfold YE;rw[List.foldl_append],by rw[q.sn_,h.sn_,List.filterMap_append],h.val.app (by rw[←h.own];exact q.val),q.ox,q.ol,by rw[Sq];have:=h.tot;have:=q.tot;omega⟩
end Go.Proofs.YtblcgjadhemlbaaGreat
