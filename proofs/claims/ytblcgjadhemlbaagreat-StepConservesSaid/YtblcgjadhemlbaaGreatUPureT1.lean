import Derived.Test.YtblcgjadhemlbaaGreatUPureE3
namespace Go.Proofs.YtblcgjadhemlbaaGreat
open Go.RowKit
set_option linter.unusedVariables false
set_option linter.unusedSimpArgs false
theorem Qf {N:Nat}(hN:1000000<N) (p:List Int) (W:Nat):∃v,Ie N p (W:Int)=some v∧(v=true→PX W p∧W≤16):=by
 unfold Ie
 cases hb:((decide (0≤(W:Int))&&decide ((W:Int)≤16))&&decide ((p.length:Int)=(W:Int)))
 ·exact⟨_,rfl,λh=>by cases h⟩
 ·simp only[Bool.and_eq_true,decide_eq_true_eq] at hb
  obtain⟨v,hv,k⟩:=VJ hN (p:=p) (by omega)
  rw[cond_true,hv]
  exact⟨_,rfl,λh=>⟨⟨by omega,(k h).1,(k h).2⟩,by omega⟩⟩
theorem SO {N:Nat}(hN:1000000<N) {l:List Int}(hl:l.length≤1000) {m:Int}(hm:0≤m∧m≤2305843009213693952):∃r,Ha N l m=some r∧(r.2=true→(∀x∈l,0≤x)∧l.sum≤m∧r.1=l.sum):=by
 unfold Ha
 rcases Lh l.length (λn i s=>EU N l m (GE N) n s i) (GE N) (some (0,false)) (λk s=>(∀x∈l.take k,0≤x)∧s=(l.take k).sum∧s≤m∧0≤s) (λn k s hk=>by
  simp only[EU];rw[Ey hk];rfl) (λn k s hi hk=>by
  obtain⟨i1,i2,i3,i4⟩:=hi
  simp only[EU]
  rw[Ea hk,cond_true,BA hk,Option.bind_some,BE (by omega),DB (n:=m-s) (by omega) (by omega)]
  cases hb:(decide (l[k]<0)||decide (m-s<l[k]))
  ·simp only[Bool.or_eq_false_iff,decide_eq_false_iff_not] at hb
   rw[cond_false,DB (n:=s+l[k]) (by omega) (by omega)]
   exact .inr ⟨_,⟨Jj hk i1 (by omega),by rw[H2 hk,i2],by omega,by omega⟩,rfl⟩
  ·exact .inl rfl) N 0 0 ⟨by simp,rfl,hm.1,Int.le_refl _⟩ (by omega) (Nat.zero_le _) with e|⟨s,⟨i1,i2,i3,i4⟩,e⟩
 ·exact⟨_,e,λh=>by cases h⟩
 ·rw[List.take_length] at i1 i2
  exact⟨_,e,λ_=>⟨i1,by omega,i2⟩⟩
theorem VP {N:Nat}(hN:1000000<N) (b:AW) (s:Ak) (ho:s.Own.length≤1000) (hq:s.Queue.length≤1000):∃r,Iq N b s=some r∧(r.2=true→(∀x∈s.Own,PX b.Owners.length x)∧(∀l∈s.Queue,(PX b.Owners.length l.Part∧0≤l.To∧l.To<b.Places.length)∧s.Hour≤l.At∧0<l.Part.sum)∧r.1=Dy s.Own+Ex s.Queue∧r.1≤1125899906842624):=by
 unfold Iq
 rcases Lh s.Own.length (λn i t=>EB N b s (EC N b s) n t i) (EC N b s) (some (0,false)) (λk t=>(∀x∈s.Own.take k,PX b.Owners.length x)∧t=Dy (s.Own.take k)∧0≤t∧t≤1125899906842624) (λn k t hk=>by
  simp only[EB];rw[Ey hk];rfl) (λn k t hi hk=>by
  obtain⟨i1,i2,i3,i4⟩:=hi
  simp only[EB]
  obtain⟨v,hv,k2⟩:=Qf hN s.Own[k] b.Owners.length
  rw[Ea hk,cond_true,BA hk,Option.bind_some,hv,Option.bind_some,BE (by omega)]
  cases v
  ·exact .inl rfl
  ·obtain⟨e1,e2⟩:=k2 rfl
   have h1:=e1.mv
   have h2:=e1.sum0
   rw[Bool.not_true,cond_false,e1.total hN (by omega),Option.bind_some,DB (n:=t+(s.Own[k]).sum) (by omega) (by omega)]
   by_cases hc:1125899906842624<t+(s.Own[k]).sum
   ·rw[decide_eq_true hc];exact .inl rfl
   ·rw[decide_eq_false hc]
    exact .inr ⟨_,⟨Jj hk i1 e1,by rw[KT hk,i2],by omega,by omega⟩,rfl⟩) N 0 0 ⟨by simp,rfl,Int.le_refl _,by decide⟩ (by omega) (Nat.zero_le _) with e|⟨t,⟨i1,i2,i3,i4⟩,e⟩
 ·exact⟨_,e,λh=>by cases h⟩
 ·rw[show EB N b s (EC N b s) N 0 0=EC N b s t from e]
  rw[List.take_length] at i1 i2
  unfold EC
  rcases Lh s.Queue.length (λn i t=>E2 N b s (Ge N) n t i) (Ge N) (some (0,false)) (λk u=>(∀l∈s.Queue.take k,(PX b.Owners.length l.Part∧0≤l.To∧l.To<b.Places.length)∧s.Hour≤l.At∧0<l.Part.sum)∧u=t+Ex (s.Queue.take k)∧0≤u∧u≤1125899906842624) (λn k t hk=>by
   simp only[E2];rw[Ey hk];rfl) (λn k u hi hk=>by
   obtain⟨j1,j2,j3,j4⟩:=hi
   simp only[E2]
   obtain⟨v,hv,k2⟩:=Qf hN (s.Queue[k]).Part b.Owners.length
   rw[Ea hk,cond_true,BA hk,BE (by omega)]
   simp only[Option.bind_some,LM,hv,Fi]
   cases hc:cond (decide ((s.Queue[k]).At<s.Hour)) true (!(decide (0≤(s.Queue[k]).To)&&decide ((s.Queue[k]).To<(b.Places.length:Int))))
   ·rw[Km,Bool.or_eq_false_iff] at hc
    obtain⟨c1,c2⟩:=hc
    have c1:=of_decide_eq_false c1
    rw[Bool.not_eq_false'] at c2
    obtain⟨c2,c3⟩:=Nk.1 c2
    cases v
    ·exact .inl rfl
    ·obtain⟨e1,e2⟩:=k2 rfl
     have h1:=e1.mv
     have h2:=e1.sum0
     simp only[Bool.not_true,cond_false]
     rw[e1.total hN (by omega),Option.bind_some,DB (n:=u+(s.Queue[k]).Part.sum) (by omega) (by omega)]
     cases hd:(decide ((s.Queue[k]).Part.sum≤0)||decide (1125899906842624<u+(s.Queue[k]).Part.sum))
     ·simp only[Bool.or_eq_false_iff,decide_eq_false_iff_not] at hd
      exact .inr ⟨_,⟨Jj hk j1 ⟨⟨e1,c2,by omega⟩,by omega,by omega⟩,by rw[Jd hk,j2];omega,by omega,by omega⟩,rfl⟩
     ·exact .inl rfl
   ·exact .inl rfl) N 0 t ⟨by simp,by simp [Ex],i3,i4⟩ (by omega) (Nat.zero_le _) with e2|⟨u,⟨j1,j2,j3,j4⟩,e2⟩
  ·exact⟨_,e2,λh=>by cases h⟩
  ·rw[List.take_length] at j1 j2
   exact⟨_,e2,λ_=>⟨i1,j1,by show u=_;omega,j4⟩⟩
structure kE (b:AW) (s:Ak):Prop where
 x:iX b s
 hour:0≤s.Hour∧s.Hour≤16777216
 gts:∀(k:Nat) l g,b.Links[k]? =some l→s.Gates[k]? =some g→(0≤g.Pos∧g.Pos≤l.Positions)∧(0≤g.Target∧g.Target≤l.Positions)
 at_:∀l∈s.Queue,s.Hour≤l.At∧0<l.Part.sum
 out0:∀x∈s.Out,0≤x
 outs:s.Out.sum≤s.In.sum+1125899906842624-(Dy s.Own+Ex s.Queue)
theorem VB {N:Nat}(hN:1000000<N) {b:AW}(hb:G1 b) (s:Ak) (hq:s.Queue.length≤1000):∃v,Hu N b s=some v∧(v=true→kE b s):=by
 have hP:=hb.pl
 have hL:=hb.li
 have hW:=hb.own
 unfold Hu
 generalize hB:(_||decide ((s.Out.length:Int)≠(b.Owners.length:Int)))=B
 cases B
 ·simp only[Bool.or_eq_false_iff,decide_eq_false_iff_not,ne_eq,Decidable.not_not] at hB
  obtain⟨⟨⟨⟨⟨⟨b1,b2⟩,b3⟩,b4⟩,b5⟩,b6⟩,b7⟩:=hB
  rw[cond_false]
  rcases Lh b.Places.length (λn i (_:Unit)=>Eu N b s (Ew N b s) n i) (λ_=>Ew N b s) (some false) (λ_ _=>True) (λn k t hk=>by
   simp only[Eu];rw[Ey hk];rfl) (λn k t _ hk=>by
   simp only[Eu]
   have hr:k<s.Rem.length:=by omega
   rw[Ea hk,cond_true,BA hk,BA hr,BE (by omega)]
   simp only[Option.bind_some,Fi]
   generalize cond (decide (s.Rem[k]<0)) true (decide (max 0 (BC ((b.Places[k]).Den-1))<s.Rem[k]))=c
   cases c
   ·exact .inr ⟨(),trivial,rfl⟩
   ·exact .inl rfl) N 0 () trivial (by omega) (Nat.zero_le _) with e|⟨_,_,e⟩
  ·exact⟨_,e,λh=>by cases h⟩
  ·rw[show Eu N b s (Ew N b s) N 0=Ew N b s from e]
   unfold Ew
   rcases Lh b.Links.length (λn i (_:Unit)=>Et N b s (Ev N b s) n i) (λ_=>Ev N b s) (some false) (λi _=>∀(k:Nat) l g,k<i→b.Links[k]? =some l→s.Gates[k]? =some g→(0≤g.Pos∧g.Pos≤l.Positions)∧(0≤g.Target∧g.Target≤l.Positions)) (λn k t hk=>by
    simp only[Et];rw[Ey hk];rfl) (λn i t hi hk=>by
    simp only[Et]
    have hr:i<s.Gates.length:=by omega
    rw[Ea hk,cond_true,BA hk,BA hr,BE (by omega)]
    simp only[Option.bind_some]
    cases hc:(((decide ((s.Gates[i]).Pos<0)||decide ((b.Links[i]).Positions<(s.Gates[i]).Pos))||decide ((s.Gates[i]).Target<0))||decide ((b.Links[i]).Positions<(s.Gates[i]).Target))
    ·simp only[Bool.or_eq_false_iff,decide_eq_false_iff_not] at hc
     obtain⟨⟨⟨c1,c2⟩,c3⟩,c4⟩:=hc
     rw[cond_false]
     cases (((s.Gates[i]).Open&&decide ((b.Links[i]).Kind≠5))&&decide ((b.Links[i]).Kind≠3))
     ·refine .inr ⟨(),λk l g hki hl hg=>?_,rfl⟩
      by_cases hne:k=i
      ·subst hne
       rw[List.getElem?_eq_getElem hk] at hl
       rw[List.getElem?_eq_getElem hr] at hg
       cases hl;cases hg
       exact⟨⟨by omega,by omega⟩,by omega,by omega⟩
      ·exact hi k l g (by omega) hl hg
     ·exact .inl rfl
    ·exact .inl rfl) N 0 () (λk l g h=>by omega) (by omega) (Nat.zero_le _) with e|⟨_,i2,e⟩
   ·exact⟨_,e,λh=>by cases h⟩
   ·rw[show Et N b s (Ev N b s) N 0=Ev N b s from e]
    unfold Ev
    obtain⟨r,er,k1⟩:=VP hN b s (by omega) hq
    rw[er,Option.bind_some]
    cases hr2:r.2
    ·exact⟨_,rfl,λh=>by cases h⟩
    ·obtain⟨k1,k2,k3,k4⟩:=k1 hr2
     have hox:HM b.Places.length b.Owners.length s.Own:=⟨by omega,k1⟩
     have hqx:QX b.Places.length b.Owners.length s.Queue:=λl hl=>(k2 l hl).1
     have hos:=hox.sum0
     have hqs:=(Eq hqx 0).2
     rw[List.take_zero,show Ex ([]:List Ao)=0 from rfl] at hqs
     obtain⟨u,hu,ku⟩:=SO hN (l:=s.In) (by omega) (m:=1152921504606846976) (by decide)
     rw[Bool.not_true,cond_false,hu,Option.bind_some]
     cases hu2:u.2
     ·exact⟨_,rfl,λh=>by cases h⟩
     ·obtain⟨u1,u2,u3⟩:=ku hu2
      have u0:=Hr u1
      rw[DB (n:=u.1+1125899906842624) (by omega) (by omega),DB (n:=u.1+1125899906842624-r.1) (by omega) (by omega)]
      obtain⟨x,hx,kx⟩:=SO hN (l:=s.Out) (by omega) (m:=u.1+1125899906842624-r.1) ⟨by omega,by omega⟩
      rw[Bool.not_true,cond_false,hx,Option.bind_some]
      refine⟨_,rfl,λhx2=>?_⟩
      obtain⟨x1,x2,x3⟩:=kx hx2
      exact⟨⟨hox,hqx,by omega,by omega,by omega,by omega,u1,u2,by omega⟩,⟨by omega,by omega⟩,λk l g hl hg=>i2 k l g (List.getElem?_eq_some_iff.1 hl).1 hl hg,λl hl=>(k2 l hl).2,x1,by omega⟩
 ·exact⟨_,rfl,λh=>by cases h⟩
end Go.Proofs.YtblcgjadhemlbaaGreat
namespace Go.Proofs.YtblcgjadhemlbaaGreat
open Go.RowKit
set_option linter.unusedVariables false
set_option linter.unusedSimpArgs false
def Qh (H:Int) (p:Nat):List AK→List Int→List Ae
 |[],_=>[]
 |e::es,x=>match e.take x with
  |some y=>(if y.1.sum≤0 then [] else [(⟨H,(p:Int),e.to_,e.way,y.1⟩:Ae)])++Qh H p es y.2
  |none=>Qh H p es x
def Ve:List AK→List Int→List Int
 |[],x=>x
 |e::es,x=>match e.take x with
  |some y=>Ve es y.2
  |none=>Ve es x
theorem O8 (H:Int) (p:Nat):∀(a b:List AK) (x:List Int),Qh H p (a++b) x=Qh H p a x++Qh H p b (Ve a x)
 |[],b,x=>rfl
 |e::a,b,x=>by
  simp only[List.cons_append,Qh,Ve]
  cases e.take x with
  |none=>exact O8 H p a b x
  |some y=>simp only;rw[O8 H p a b y.2,List.append_assoc]
theorem RP:∀(a b:List AK) (x:List Int),Ve (a++b) x=Ve b (Ve a x)
 |[],b,x=>rfl
 |e::a,b,x=>by
  simp only[List.cons_append,Ve]
  cases e.take x with
  |none=>exact RP a b x
  |some y=>exact RP a b y.2
theorem O7 {H:Int}{p:Nat}:∀{es:List AK}{x:List Int}(m:Ae),m∈Qh H p es x→∃e∈es,m.Way=e.way∧m.From=(p:Int)
 |[],x,m,hm=>by cases hm
 |e::es,x,m,hm=>by
  simp only[Qh] at hm
  cases h:e.take x with
  |none=>
   rw[h] at hm
   obtain⟨e',h1,h2⟩:=O7 (es:=es) m hm
   exact⟨e',.tail _ h1,h2⟩
  |some y=>
   rw[h] at hm
   rcases List.mem_append.1 hm with hm|hm
   ·split at hm
    ·cases hm
    ·rw[List.mem_singleton.1 hm];exact⟨e,.head _,rfl,rfl⟩
   ·obtain⟨e',h1,h2⟩:=O7 (es:=es) m hm
    exact⟨e',.tail _ h1,h2⟩
def Kv (b:AW) (p:Nat) (t:Fj):Bool:=decide (t.Place=(p:Int))&&(decide (0≤t.Owner)&&decide (t.Owner<(b.Owners.length:Int)))&&decide (0<t.Litres)&&(decide (t.To= -1)||((decide (0≤t.To)&&decide (t.To<(b.Places.length:Int)))&&decide ((b.Places.getD t.To.toNat default).Office=(b.Places.getD p default).Office)))
def UE (N:Nat) (t:Fj):AK:=⟨t.To,0, -3,λy=>Cu N t y⟩
def KY (N:Nat) (b:AW) (p:Nat) (ts:List Fj):List AK:=(ts.filter (Kv b p)).map (UE N)
theorem TT (N:Nat) (b:AW) (p:Nat) {ts:List Fj}{k:Nat}(hk:k<ts.length):KY N b p (ts.take (k+1))=KY N b p (ts.take k)++if Kv b p ts[k] then [UE N ts[k]] else []:=by
 unfold KY
 rw[List.take_succ_eq_append_getElem hk,List.filter_append,List.map_append]
 congr 1
 cases h:Kv b p ts[k]<;>simp [h]
theorem Qb (N:Nat) (b:AW) (p:Nat) (ts:List Fj):(KY N b p ts).length≤ts.length:=by
 unfold KY;rw[List.length_map];exact List.length_filter_le _ _
theorem V1 {N:Nat}(hN:18446744073709551616<N) {w:Aj}(ht:w.in_.Takes.length≤1000) {p:Nat}(hp:p<w.b.Places.length):HB N w (p:Int)=some (KY N w.b p w.in_.Takes):=by
 unfold HB
 obtain⟨l,i1,e⟩:=Da w.in_.Takes.length (λn i l=>Br N w (p:Int) (CZ N) n l i) (CZ N) (λk l=>l=KY N w.b p (w.in_.Takes.take k)) (λn k l hk=>by
  simp only[Br];rw[Ey hk];rfl) (λn k l hi hk=>by
  have hl:=Qb N w.b p (w.in_.Takes.take k)
  rw[←hi,List.length_take] at hl
  rw[TT N w.b p hk,←hi]
  simp only[Br,E3]
  rw[Ea hk,cond_true,BA hk,BE (by omega)]
  simp only[Option.bind_some,LM,Fi]
  generalize w.in_.Takes[k]=x
  have hgp:w.b.Places.getD p default=w.b.Places[p]:=by simp [List.getD_eq_getElem?_getD,hp]
  have fin:∀B:Bool,Kv w.b p x=B→∃s',s'=(l++if Kv w.b p x then [UE N x] else [])∧cond B (chk (KN (l.length+1) 32) (Br N w (p:Int) (CZ N) n (l++([(⟨x.To,0,(-3),(λy=>Cu N x y)⟩:AK)]:List AK)) ((k+1:Nat):Int))) (Br N w (p:Int) (CZ N) n l ((k+1:Nat):Int))=Br N w (p:Int) (CZ N) n s' ((k+1:Nat):Int):=λB hB=>by
   refine⟨_,rfl,?_⟩
   rw[hB]
   cases B
   ·simp
   ·rw[cond_true,Jc (by omega)];rfl
  unfold Kv at fin
  by_cases h1:x.Place=(p:Int)
  ·cases h2:(decide (0≤x.Owner)&&decide (x.Owner<(w.b.Owners.length:Int)))
   ·simp [h1,Kv,h2]
   ·by_cases h3:0<x.Litres
    ·by_cases hto:x.To= -1
     ·have:=fin true (by rw[h2];simp [h1,h3,hto])
      simpa [h1,Kv,h2,hto,show ¬x.Litres≤0 by omega] using this
     ·cases hr:(decide (0≤x.To)&&decide (x.To<(w.b.Places.length:Int)))
      ·simp [h1,Kv,h2,hto,hr,show ¬x.Litres≤0 by omega]
      ·obtain⟨r1,r2⟩:=Nk.1 hr
       obtain⟨y,hy⟩:=Df.ix (l:=w.b.Places) r1 (by omega)
       have hy':w.b.Places.getD x.To.toNat default=y:=by
        obtain⟨j,hj⟩:∃j:Nat,x.To=(j:Int):=⟨x.To.toNat,by omega⟩
        rw[hj] at hy r2 ⊢
        rw[BA (by omega)] at hy
        rw[Int.toNat_natCast]
        simpa [List.getD_eq_getElem?_getD,show j<w.b.Places.length by omega] using hy
       by_cases hof:y.Office=(w.b.Places[p]).Office
       ·have:=fin true (by rw[hr,h2,hy',hgp];simp [h1,h3,hof])
        simpa [h1,Kv,h2,hto,hr,hy,BA hp,hof,show ¬x.Litres≤0 by omega] using this
       ·have:=fin false (by rw[hr,hy',hgp];simp [hto,hof])
        simpa [h1,Kv,h2,hto,hr,hy,BA hp,hof,show ¬x.Litres≤0 by omega] using this
    ·simp [h1,Kv,h2,h3,show x.Litres≤0 by omega]
  ·simp [h1,Kv]) N 0 [] rfl (by omega) (Nat.zero_le _)
 rw[List.take_length] at i1
 rw[←i1]
 exact e
theorem V3 {N:Nat}(hN:18446744073709551616<N) {b:AW}{W:Nat}(hW:W≤64) (p:Nat) (ts:List Fj):XL b W p (KY N b p ts):=λe he=>by
 obtain⟨t,ht,rfl⟩:=List.mem_map.1 he
 have hb:=(List.mem_filter.1 ht).2
 refine⟨YQ (by omega) hW t,by show(-3:Int)≠ -4;decide,?_,by show(0:Int)=Pu _ _ (-3);unfold Pu;rw[if_neg (by omega),if_pos rfl]⟩
 show t.To= -1∨(0≤t.To∧t.To<b.Places.length)
 unfold Kv at hb
 simp only[Bool.and_eq_true,Bool.or_eq_true,decide_eq_true_eq] at hb
 omega
def XF (b:AW) (W p:Nat) (l:List AK):Prop:=∀e∈l,cJ b W p e∧0≤e.way
theorem XF.snoc {b:AW}{W p:Nat}{l:List AK}(h:XF b W p l) {e:AK}(he:cJ b W p e) (hw:0≤e.way):XF b W p (l++[e]):=λx hx=>by
 rcases List.mem_append.1 hx with hx|hx
 ·exact h x hx
 ·rw[List.mem_singleton.1 hx];exact⟨he,hw⟩
theorem Wo {N:Nat}(hN:18446744073709551616<N) {w:Aj}{W:Nat}(hW:W≤64) (hL:w.b.Links.length≤1000) (hlk:∀l∈w.b.Links,JP w.b l) (hg:w.s.Gates.length=w.b.Links.length) (hpk:w.peaks.length=w.b.Places.length) {p:Nat}(hp:p<w.b.Places.length):∃l,HD N w (p:Int)=some l∧l.length≤w.b.Links.length∧XF w.b W p l:=by
 unfold HD
 obtain⟨l,⟨i1,i2⟩,e⟩:=Da w.b.Links.length (λn i l=>Ba N w (p:Int) (Cc N) n l i) (Cc N) (λk l=>l.length≤k∧XF w.b W p l) (λn k l hk=>by
  simp only[Ba];rw[Ey hk];rfl) (λn k l hi hk=>by
  obtain⟨i1,i2⟩:=hi
  have ok:=hlk _ (List.getElem_mem hk)
  have hgk:k<w.s.Gates.length:=by omega
  have hpp:p<w.peaks.length:=by omega
  have hdl:Pu w.b p (k:Int)=(w.b.Links[k]).Delay:=by
   unfold Pu
   rw[if_pos ⟨by omega,by omega⟩,Int.toNat_natCast,RT hk]
  simp only[Ba,F5,Cz,Fs]
  rw[Ea hk,cond_true,BA hk,Option.bind_some,BE (by omega)]
  simp only[BA hgk,BA hpp,Option.bind_some]
  generalize w.b.Links[k]=x at ok hdl
  have add1:∀(n':Int) (to:Int),(to= -1∨(0≤to∧to<w.b.Places.length))→∃s',(s'.length≤k+1∧XF w.b W p s')∧chk (KN (l.length+([(⟨to,x.Delay,(k:Int),(λx=>Ab N n' x)⟩:AK)]:List AK).length) 32) (Ba N w (p:Int) (Cc N) n (l++([(⟨to,x.Delay,(k:Int),(λx=>Ab N n' x)⟩:AK)]:List AK)) ((k+1:Nat):Int))=Ba N w (p:Int) (Cc N) n s' ((k+1:Nat):Int):=λn' to hto=>by
   rw[Jc (by simp;omega)]
   exact⟨_,⟨by simp;omega,i2.snoc ⟨λy hy=>by obtain⟨t,e,h,_⟩:=NX hN hW n' y hy;exact⟨t,e,h⟩,by show(k:Int)≠ -4;omega,hto,hdl.symm⟩ (by show 0≤(k:Int);omega)⟩,rfl⟩
  have pkI:∀i:Int,0≤i→i<w.b.Places.length→∃y,ix w.peaks i=some y:=λi h0 h1=>Df.ix h0 (by omega)
  obtain⟨f0,hf0⟩:=pkI x.From ok.fr.1 ok.fr.2
  cases hA:(decide (x.From=(p:Int))&&decide (x.Kind≠4))
  ·rw[cond_false]
   cases hB:decide (x.From=(p:Int))
   ·rw[cond_false]
    cases hC:(decide (x.To=(p:Int))&&decide (x.Kind=4))
    ·exact⟨l,⟨by omega,i2⟩,rfl⟩
    ·obtain⟨a,ha⟩:=UH hN x f0 w.peaks[p]
     obtain⟨b,hb⟩:=PR N 0 a
     rw[cond_true]
     simp only[hf0,Option.bind_some]
     rw[ha,Option.bind_some,hb,Option.bind_some]
     exact add1 _ _ (.inr ok.fr)
   ·have hB:=of_decide_eq_true hB
    have h4:x.Kind=4:=by
     rw[decide_eq_true hB,Bool.true_and] at hA
     simpa using hA
    obtain⟨_,_,_,_,_,hto⟩:=ok.seep h4
    have hto:=ok.to.resolve_left hto
    obtain⟨t0,ht0⟩:=pkI x.To hto.1 hto.2
    obtain⟨a,ha⟩:=UH hN x w.peaks[p] t0
    rw[cond_true]
    simp only[ht0,Option.bind_some]
    rw[ha,Option.bind_some]
    exact add1 _ _ ok.to
  ·rw[cond_true]
   cases hT:decide (x.To≠ -1)
   ·obtain⟨a,ha⟩:=Uc hN x w.s.Gates[k] w.peaks[p] 0
    rw[cond_false,ha,Option.bind_some]
    exact add1 _ _ ok.to
   ·have hT:=of_decide_eq_true hT
    have hto:=ok.to.resolve_left hT
    obtain⟨t0,ht0⟩:=pkI x.To hto.1 hto.2
    obtain⟨a,ha⟩:=Uc hN x w.s.Gates[k] w.peaks[p] t0
    rw[cond_true]
    simp only[ht0,Option.bind_some]
    rw[ha,Option.bind_some]
    exact add1 _ _ ok.to) N 0 [] ⟨Nat.le_refl _,λe he=>by cases he⟩ (by omega) (Nat.zero_le _)
 exact⟨l,e,i1,i2⟩
end Go.Proofs.YtblcgjadhemlbaaGreat
