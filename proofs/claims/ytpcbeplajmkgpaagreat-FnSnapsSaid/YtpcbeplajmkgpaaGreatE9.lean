/- An own evaluator of the program's form, proved sound, and what it says of this law's functions: part 9. -/
import Derived.Test.YtpcbeplajmkgpaaGreatE8
set_option linter.unusedVariables false
open Go Go.Eng
namespace Go.Eng.R
set_option maxRecDepth 100000
theorem rdRm {l:List V} {i:Nat} (hi:i≤l.length) (t:Nat):rd (Zas l i) t=rd l (if t<i then t else t+1):=by
 have h1:(l.take i).length=i:=by rw[List.length_take];omega
 unfold Zas rd
 simp only[List.getD]
 by_cases h:t<i
 ·rw[List.getElem?_append_left (by omega),List.getElem?_take,if_pos h,if_pos h]
 ·rw[List.getElem?_append_right (by omega),h1,List.getElem?_drop,if_neg h,show i+1+(t-i)=t+1 by omega]
theorem Zlu {l:List V} {i t:Nat} {x:V} (hi:i≤l.length) (h:i≤t):rd (Zan l i x) (t+1)=rd l t:=by
 have h1:(l.take i++[x]).length=i+1:=by rw[List.length_append,List.length_take,List.length_singleton];omega
 unfold Zan rd
 simp only[List.getD]
 rw[List.getElem?_append_right (by omega),h1,List.getElem?_drop,show i+(t+1-(i+1))=t by omega]
def Asc (R:V→V→Prop) (l:List V):Prop:=∀i,i+1<l.length→R (rd l i) (rd l (i+1))
theorem Asc.ins {R:V→V→Prop} {l:List V} {p:Nat} {x:V} (h:Asc R l) (hp:p≤l.length) (h1:0<p→R (rd l (p-1)) x) (h2:p<l.length→R x (rd l p)):Asc R (Zan l p x):=by
 intro i hi
 rw[Zc4 hp] at hi
 rcases Nat.lt_trichotomy i p with c | c | c
 ·rw[Zlt hp c]
  rcases Nat.lt_or_ge (i+1) p with d | d
  ·rw[Zlt hp d];exact h i (by omega)
  ·obtain rfl:p=i+1:=by omega
   rw[Zi6 hp];have:=h1 (by omega);rwa [Nat.add_sub_cancel] at this
 ·subst c
  rw[Zi6 hp,Zlu hp (Nat.le_refl _)];exact h2 (by omega)
 ·obtain⟨j,rfl⟩:∃j,i=j+1:=⟨i-1,by omega⟩
  rw[Zlu hp (show p≤j by omega),Zlu hp (show p≤j+1 by omega)]
  exact h j (by omega)
theorem Asc.rm {R:V→V→Prop} {l:List V} {p:Nat} (h:Asc R l) (hp:p<l.length) (ht:∀a b c,R a b→R b c→R a c):Asc R (Zas l p):=by
 intro i hi
 rw[Zde hp] at hi
 rw[rdRm (Nat.le_of_lt hp),rdRm (Nat.le_of_lt hp)]
 by_cases c:i<p
 ·rw[if_pos c]
  by_cases d:i+1<p
  ·rw[if_pos d];exact h i (by omega)
  ·rw[if_neg d];exact ht _ _ _ (h i (by omega)) (h (i+1) (by omega))
 ·rw[if_neg c,if_neg (by omega)];exact h (i+1) (by omega)
theorem Asc.set {R:V→V→Prop} {l:List V} {p:Nat} {x:V} (h:Asc R l) (h1:∀a,R a (rd l p)→R a x) (h2:∀a,R (rd l p) a→R x a):Asc R (l.set p x):=by
 intro i hi
 rw[List.length_set] at hi
 by_cases c:i=p
 ·subst c
  rw[Zbr (by omega),Zei (by omega)];exact h2 _ (h i hi)
 ·rw[Zei c]
  by_cases d:i+1=p
  ·subst d;rw[Zbr (by omega)];exact h1 _ (h i hi)
  ·rw[Zei d];exact h i hi
theorem Zp1 (l:List V) (x:V):Zan l l.length x=l++[x]:=by unfold Zan;rw[List.take_length,List.drop_length,List.append_nil]
theorem Asc.snoc {R:V→V→Prop} {l:List V} {x:V} (h:Asc R l) (h1:∀y∈l,R y x):Asc R (l++[x]):=by
 rw[←Zp1]
 exact h.ins (Nat.le_refl _) (fun h0=>h1 _ (Zx (by omega))) (fun h0=>absurd h0 (Nat.lt_irrefl _))
theorem asc_tr:∀a b c:V,nlt (gl a 0) (gl b 0)=true→nlt (gl b 0) (gl c 0)=true→nlt (gl a 0) (gl c 0)=true:=fun _ _ _ h1 h2=>ZiA h1 h2
theorem ascI_few:∀{l:List V},AscI l→(∀x∈l,0≤gi x 0∧gi x 0≤3)→l.length≤4:=by
 intro l h hb
 have key:∀i,i<l.length→(i:Int)≤gi (rd l i) 0:=by
  intro i
  induction i with
  | zero=>intro hi;exact(hb _ (Zx hi)).1
  | succ i ih=>
   intro hi
   have h1:=ih (by omega)
   have h2:=h i hi
   omega
 rcases Nat.lt_or_ge 4 l.length with c | c
 ·have h1:=key 4 c
  have h2:=(hb _ (Zx c)).2
  omega
 ·exact c
theorem set_perm {l:List V} {i:Nat} (hi:i<l.length) (x:V):(l.set i x).Perm (x :: Zas l i):=by
 have h:=Zfg (l:=l.set i x) (by rw[List.length_set];exact hi)
 rw[Zbr hi] at h
 have e:Zas (l.set i x) i=Zas l i:=by
  unfold Zas
  rw[List.take_set_of_le (Nat.le_refl _),List.drop_set_of_lt (Nat.lt_succ_self _)]
 rwa [e] at h
theorem VS.ndT {x:Int} {s:SD} (h:VS x s):(s.tombs.map kc).Nodup:=(List.nodup_append.1 h.nd).2.1
theorem VS.bury {x:Int} {s:SD} (h:VS x s) (h1:1≤s.idx) {i:Nat} (hi:i<s.rows.length):VS x (s.bury i):=by
 have hr:=h.rows _ (Zx hi)
 have hl:=h.l1
 have hT:∀t∈s.tombs++[Zc3 (gl (rd s.rows i) 0) s.idx],Zcj (gl t 0)=true∧1≤gi t 1∧gi t 1≤s.idx∧s.lost≤gi t 1:=fun t ht=>by
  rcases List.mem_append.1 ht with ht | ht
  ·exact h.tombs t ht
  ·rw[List.mem_singleton.1 ht]
   exact⟨hr.1,h1,Int.le_refl _,h.l1⟩
 have hO:((s.tombs++[Zc3 (gl (rd s.rows i) 0) s.idx]).map fun t=>gi t 1).Pairwise (·≤·):=by
  rw[List.map_append,List.pairwise_append]
  refine⟨h.ord,List.pairwise_singleton _ _,fun a ha b hb=>?_⟩
  obtain⟨t,ht,rfl⟩:=List.mem_map.1 ha
  rw[List.map_singleton,List.mem_singleton] at hb
  subst hb
  exact(h.tombs t ht).2.2.1
 have hN:((Zas s.rows i).map kc++(s.tombs++[Zc3 (gl (rd s.rows i) 0) s.idx]).map kc).Nodup:=by
  have hp:(s.rows.map kc++s.tombs.map kc).Perm ((Zas s.rows i).map kc++(s.tombs++[Zc3 (gl (rd s.rows i) 0) s.idx]).map kc):=by
   have h1:(s.rows.map kc).Perm (kc (rd s.rows i) :: (Zas s.rows i).map kc):=(Zfg hi).map kc
   refine(h1.append_right _).trans ?_
   rw[List.map_append,List.map_singleton,show kc (Zc3 (gl (rd s.rows i) 0) s.idx)=kc (rd s.rows i) from rfl,←List.append_assoc]
   exact(List.perm_append_singleton _ _).symm
  exact hp.nodup h.nd
 have hW:∀t∈s.tombs++[Zc3 (gl (rd s.rows i) 0) s.idx],LW ZaB (gl t 0):=fun t ht=>by
  rcases List.mem_append.1 ht with ht | ht
  ·exact h.wt t ht
  ·rw[List.mem_singleton.1 ht];exact(h.wr _ (Zx hi)).1
 have hlen:(s.tombs++[Zc3 (gl (rd s.rows i) 0) s.idx]).length=s.tombs.length+1:=by rw[List.length_append,List.length_singleton]
 have hrl:=Zde hi
 have hnr:=h.nr
 unfold SD.bury
 by_cases hd:10<s.tombs.length+1
 ·rw[decide_eq_true hd]
  generalize s.tombs++[Zc3 (gl (rd s.rows i) 0) s.idx]=T at *
  have hnt:=h.nt
  cases T with
  | nil=>simp at hlen
  | cons t0 T=>
   have e0:rd (t0 :: T) 0=t0:=rfl
   have hT0:=hT t0 (List.mem_cons_self ..)
   have hO':=List.pairwise_cons.1 (show(gi t0 1 :: T.map fun t=>gi t 1).Pairwise (·≤·) from hO)
   have l0:=h.l0
   refine⟨h.i0,h.i1,?_,?_,by show(Zas s.rows i).length≤20;omega,?_,h.ns,h.nl,fun r hr=>h.rows r (ZbE hr),fun r hr=>h.hold r (ZbE hr),Asc.rm (R:=fun a b=>nlt (gl a 0) (gl b 0)=true) h.asc hi asc_tr,fun t ht=>?_,hO'.2,?_,h.sess,h.sasc,h.lasts,h.lasc,fun r hr=>h.wr r (ZbE hr),fun t ht=>hW t (List.mem_cons_of_mem _ ht)⟩
   ·show 0≤gi (rd (t0 :: T) 0) 1;rw[e0];omega
   ·show gi (rd (t0 :: T) 0) 1≤s.idx;rw[e0];omega
   ·show T.length≤10;rw[List.length_cons] at hlen;omega
   ·have ht:t∈T:=ht
    have:=hT t (List.mem_cons_of_mem _ ht)
    refine⟨this.1,this.2.1,this.2.2.1,?_⟩
    show gi (rd (t0 :: T) 0) 1≤gi t 1
    rw[e0];exact hO'.1 _ (List.mem_map_of_mem ht)
   ·show((Zas s.rows i).map kc++T.map kc).Nodup
    rw[List.nodup_append] at hN ⊢
    refine⟨hN.1,(List.nodup_cons.1 (show(kc t0 :: T.map kc).Nodup from hN.2.1)).2,fun a ha b hb=>hN.2.2 a ha b (List.mem_cons_of_mem _ hb)⟩
 ·rw[decide_eq_false hd]
  exact⟨h.i0,h.i1,h.l0,h.l1,by show(Zas s.rows i).length≤20;omega,by show(s.tombs++[_]).length≤10;omega,h.ns,h.nl,fun r hr=>h.rows r (ZbE hr),fun r hr=>h.hold r (ZbE hr),Asc.rm (R:=fun a b=>nlt (gl a 0) (gl b 0)=true) h.asc hi asc_tr,hT,hO,hN,h.sess,h.sasc,h.lasts,h.lasc,fun r hr=>h.wr r (ZbE hr),hW⟩
theorem VS.setRow {x:Int} {s:SD} (h:VS x s) {j:Nat} (hj:j<s.rows.length) {v:List V} {t o:Int} (hv:v.length≤20) (hw:LW ZaB v) (ht:1≤t∧t≤s.idx) (ho:o=0∨o=x∨∃y∈s.sess,gi y 0=o):
  VS x { s with rows:=s.rows.set j (Za5 (gl (rd s.rows j) 0) v t o) }:=by
 have hr:=h.rows _ (Zx hj)
 have hwj:=h.wr _ (Zx hj)
 refine⟨h.i0,h.i1,h.l0,h.l1,by show(s.rows.set j _).length≤20;rw[List.length_set];exact h.nr,h.nt,h.ns,h.nl,fun r hr'=>?_,fun r hr'=>?_,?_,h.tombs,h.ord,?_,h.sess,h.sasc,h.lasts,h.lasc,fun r hr'=>?_,h.wt⟩
 ·rcases List.mem_or_eq_of_mem_set hr' with hr' | hr'
  ·exact h.rows r hr'
  ·subst hr';exact⟨hr.1,hv,ht.1,ht.2⟩
 ·rcases List.mem_or_eq_of_mem_set hr' with hr' | hr'
  ·exact h.hold r hr'
  ·subst hr';exact ho
 ·exact Asc.set (R:=fun a b=>nlt (gl a 0) (gl b 0)=true) h.asc (fun a ha=>ha) (fun a ha=>ha)
 ·show((s.rows.set j (Za5 (gl (rd s.rows j) 0) v t o)).map kc++s.tombs.map kc).Nodup
  have e:(s.rows.set j (Za5 (gl (rd s.rows j) 0) v t o)).map kc=s.rows.map kc:=by
   rw[List.map_set]
   have:kc (Za5 (gl (rd s.rows j) 0) v t o)=(s.rows.map kc)[j]'(by rw[List.length_map];exact hj):=by rw[List.getElem_map,←Zdg hj];rfl
   rw[this,List.set_getElem_self]
  rw[e];exact h.nd
 ·rcases List.mem_or_eq_of_mem_set hr' with hr' | hr'
  ·exact h.wr r hr'
  ·subst hr';exact⟨hwj.1,hw⟩
theorem VS.put {x:Int} {s:SD} (h:VS x s) (h1:1≤s.idx) {key val:List V} (hk:Zcj key=true) (hv:val.length≤20) (hwk:LW ZaB key) (hwv:LW ZaB val):VS x (s.put key val).2:=by
 unfold SD.put
 have hf:=ZhU (k:=key) h.asc
 cases hff:Zt (fun i=>neq (gl (rd s.rows i) 0) key) 0 s.rows.length with
 | some j=>
  have hj:=Zc5 hff
  exact h.setRow hj hv hwv ⟨h1,Int.le_refl _⟩ (h.hold _ (Zx hj))
 | none=>
  by_cases h20:20≤s.rows.length
  ·rw[decide_eq_true h20];exact h
  rw[decide_eq_false h20]
  have hle:=Zhg (fun r=>gl r 0) s.rows key
  have hsp:=Zgr h.asc key
  have hno:∀r∈s.rows,kc r≠ZbT key:=fun r hr e=>by
   obtain⟨i,hi,rfl⟩:=ZcK hr
   have h9:neq (gl (rd s.rows i) 0) key=false:=firstI_none.1 hff i (Nat.zero_le _) (by omega)
   rw[ZfI,decide_eq_true (show ZbT (gl (rd s.rows i) 0)=ZbT key from e)] at h9;cases h9
  have hA:Asc (fun a b=>nlt (gl a 0) (gl b 0)=true) (Zan s.rows (ZbP s.rows key) (Za5 key val s.idx 0)):=by
   rw[ZhT h.asc]
   refine Asc.ins (R:=fun a b=>nlt (gl a 0) (gl b 0)=true) h.asc hle (fun h0=>?_) (fun h0=>?_)
   ·have e:nlt (gl (rd s.rows (lbN (fun r=>gl r 0) s.rows key-1)) 0) key=_:=hsp (lbN (fun r=>gl r 0) s.rows key-1) (by omega)
    show nlt _ key=true
    rw[e,decide_eq_true (by omega)]
   ·have e:nlt (gl (rd s.rows (lbN (fun r=>gl r 0) s.rows key)) 0) key=_:=hsp _ h0
    rw[decide_eq_false (Nat.lt_irrefl _)] at e
    have e2:neq (gl (rd s.rows (lbN (fun r=>gl r 0) s.rows key)) 0) key=false:=firstI_none.1 hff _ (Nat.zero_le _) (by omega)
    exact nlt_tri e e2
  have hl:=Zc4 (x:=Za5 key val s.idx 0) (Zf3 s.rows key)
  have hnr:=h.nr
  have hpr:((Zan s.rows (ZbP s.rows key) (Za5 key val s.idx 0)).map kc).Perm (ZbT key :: s.rows.map kc):=(ZhS _ _ _).map kc
  have rest:∀T:List V,(∀t∈T,t∈s.tombs)→(T.map kc).Sublist (s.tombs.map kc)→(T.map fun t=>gi t 1).Pairwise (·≤·)→T.length≤10→(∀t∈T,kc t≠ZbT key)→VS x { s with rows:=Zan s.rows (ZbP s.rows key) (Za5 key val s.idx 0),tombs:=T }:=fun T hT hS hO hTl hTk=>by
   refine⟨h.i0,h.i1,h.l0,h.l1,by show(Zan s.rows _ _).length≤20;omega,hTl,h.ns,h.nl,fun r hr=>?_,fun r hr=>?_,hA,fun t ht=>h.tombs t (hT t ht),hO,?_,h.sess,h.sasc,h.lasts,h.lasc,fun r hr=>?_,fun t ht=>h.wt t (hT t ht)⟩
   ·rcases ZeO hr with rfl | hr
    ·exact⟨hk,hv,h1,Int.le_refl _⟩
    ·exact h.rows r hr
   ·rcases ZeO hr with rfl | hr
    ·exact .inl rfl
    ·exact h.hold r hr
   ·refine(hpr.append_right _).symm.nodup ?_
    rw[List.cons_append,List.nodup_cons]
    refine⟨fun hm=>?_,?_⟩
    ·rcases List.mem_append.1 hm with hm | hm
     ·obtain⟨r,hr,e⟩:=List.mem_map.1 hm;exact hno r hr e
     ·obtain⟨t,ht,e⟩:=List.mem_map.1 hm;exact hTk t ht e
    ·exact(List.Sublist.append (List.Sublist.refl _) hS).nodup h.nd
   ·rcases ZeO hr with rfl | hr
    ·exact⟨hwk,hwv⟩
    ·exact h.wr r hr
  cases hft:Zt (fun i=>neq (gl (rd s.tombs i) 0) key) 0 s.tombs.length with
  | none=>
   refine rest s.tombs (fun t ht=>ht) (List.Sublist.refl _) h.ord h.nt fun t ht e=>?_
   obtain⟨i,hi,rfl⟩:=ZcK ht
   have h9:neq (gl (rd s.tombs i) 0) key=false:=firstI_none.1 hft i (Nat.zero_le _) (by omega)
   rw[ZfI,decide_eq_true (show ZbT (gl (rd s.tombs i) 0)=ZbT key from e)] at h9;cases h9
  | some j=>
   have hj:=Zc5 hft
   have hq:neq (gl (rd s.tombs j) 0) key=true:=(Z8 hft).2.2.1
   rw[ZfI] at hq
   have hq:kc (rd s.tombs j)=ZbT key:=of_decide_eq_true hq
   have hsub:(Zas s.tombs j).Sublist s.tombs:=by
    have:(s.tombs.take j++s.tombs.drop (j+1)).Sublist (s.tombs.take j++s.tombs.drop j):=List.Sublist.append (List.Sublist.refl _) (List.drop_sublist_drop_left _ (Nat.le_succ _))
    rwa [List.take_append_drop] at this
   have hnt:=h.nt
   refine rest (Zas s.tombs j) (fun t ht=>ZbE ht) (hsub.map kc) (List.Pairwise.sublist (hsub.map _) h.ord) (by rw[Zde hj];omega) fun t ht e=>?_
   have hp:=(Zfg hj).map kc
   have hn:=hp.nodup h.ndT
   rw[List.map_cons,List.nodup_cons] at hn
   exact hn.1 (by rw[hq,←e];exact List.mem_map_of_mem ht)
end Go.Eng.R
open Go Go.Eng
namespace Go.Eng.R
set_option maxRecDepth 100000
theorem VS.shutL {id:Int} (h0:id≠0) (del:Bool):∀(n k:Nat) (s:SD),VS id s→1≤s.idx→(∀i,i<k→i<s.rows.length→gi (rd s.rows i) 3≠id)→s.rows.length≤n+k→
  VS id (SD.shutL id del n k s)∧(∀r∈(SD.shutL id del n k s).rows,gi r 3≠id)
 | 0,k,s,h,h1,hk,hn=>⟨h,fun r hr=>by
   obtain⟨i,hi,rfl⟩:=ZcK hr
   have hi:i<s.rows.length:=hi
   exact hk i (by omega) hi⟩
 | n+1,k,s,h,h1,hk,hn=>by
  rw[SD.shutL]
  by_cases hlt:k<s.rows.length
  case neg=>
   rw[dF hlt]
   exact⟨h,fun r hr=>by obtain⟨i,hi,rfl⟩:=ZcK hr;have hi:i<s.rows.length:=hi;exact hk i (by omega) hi⟩
  rw[dT hlt]
  by_cases hh:gi (rd s.rows k) 3=id
  case neg=>
   rw[dF hh]
   refine VS.shutL h0 del n (k+1) s h h1 (fun i hi hi2=>?_) (by omega)
   rcases Nat.lt_or_ge i k with c | c
   ·exact hk i c hi2
   ·obtain rfl:i=k:=by omega
    exact hh
  rw[dT hh]
  cases del with
  | true=>
   simp only[Bool.not_true,cond_false,cond_true]
   have hl:=(Zk3 hlt h.nt).1
   have hi':(s.bury k).idx=s.idx:=by unfold SD.bury;cases decide (10<s.tombs.length+1) <;> rfl
   have hr':(s.bury k).rows=Zas s.rows k:=by unfold SD.bury;cases decide (10<s.tombs.length+1) <;> rfl
   refine VS.shutL h0 true n k (s.bury k) (h.bury h1 hlt) (by omega) (fun i hi hi2=>?_) (by omega)
   rw[hr',rdRm (Nat.le_of_lt hlt),if_pos hi]
   exact hk i hi (by omega)
  | false=>
   simp only[Bool.not_true,cond_false]
   have hr:=h.rows _ (Zx hlt)
   refine VS.shutL h0 false n (k+1) _ (h.setRow hlt hr.2.1 (h.wr _ (Zx hlt)).2 ⟨h1,Int.le_refl _⟩ (.inl rfl)) h1 (fun i hi hi2=>?_) (by show(s.rows.set k _).length≤_;rw[List.length_set];omega)
   show gi (rd (s.rows.set k _) i) 3≠id
   by_cases c:i=k
   ·subst c;rw[Zbr hlt];exact fun e=>h0 e.symm
   ·rw[Zei c];exact hk i (by omega) (by have:(s.rows.set k (Za5 (gl (rd s.rows k) 0) (gl (rd s.rows k) 1) s.idx 0)).length=_:=List.length_set;omega)
theorem ZgK (id:Int) (del:Bool):∀(n k:Nat) (s:SD),(SD.shutL id del n k s).idx=s.idx
 | 0,_,_=>rfl
 | n+1,k,s=>by
  rw[SD.shutL]
  cases decide (k<s.rows.length) with
  | false=>rfl
  | true=>
   cases decide (gi (rd s.rows k) 3=id) with
   | false=>exact ZgK id del n (k+1) s
   | true=>
    cases del with
    | true=>exact(ZgK id true n k (s.bury k)).trans (by unfold SD.bury;cases decide (10<s.tombs.length+1) <;> rfl)
    | false=>exact ZgK id false n (k+1) _
theorem Zf5 (id:Int) (del:Bool):∀(n k:Nat) (s:SD),(SD.shutL id del n k s).sess=s.sess
 | 0,_,_=>rfl
 | n+1,k,s=>by
  rw[SD.shutL]
  cases decide (k<s.rows.length) with
  | false=>rfl
  | true=>
   cases decide (gi (rd s.rows k) 3=id) with
   | false=>exact Zf5 id del n (k+1) s
   | true=>
    cases del with
    | true=>exact(Zf5 id true n k (s.bury k)).trans (by unfold SD.bury;cases decide (10<s.tombs.length+1) <;> rfl)
    | false=>exact Zf5 id false n (k+1) _
theorem VS.lose {s:SD} (h:VS 0 s) {i:Nat} (hi:i<s.sess.length):VS (gi (rd s.sess i) 0) { s with sess:=Zas s.sess i }:=by
 have hn:=h.ns
 refine⟨h.i0,h.i1,h.l0,h.l1,h.nr,h.nt,by show(Zas s.sess i).length≤8;rw[Zde hi];omega,h.nl,h.rows,fun r hr=>?_,h.asc,h.tombs,h.ord,h.nd,fun y hy=>h.sess y (ZbE hy),Asc.rm (R:=fun a b=>gi a 0<gi b 0) h.sasc hi (fun _ _ _ a b=>Int.lt_trans a b),h.lasts,h.lasc,h.wr,h.wt⟩
 rcases h.hold r hr with e | e | ⟨y,hy,e⟩
 ·exact .inl e
 ·exact .inl e
 ·rcases List.mem_cons.1 ((Zfg hi).mem_iff.1 hy) with rfl | hy
  ·exact .inr (.inl e.symm)
  ·exact .inr (.inr ⟨y,hy,e⟩)
theorem VS.keep {x:Int} {s:SD} (h:VS x s) (hr:∀r∈s.rows,gi r 3≠x):VS 0 s:=
 ⟨h.i0,h.i1,h.l0,h.l1,h.nr,h.nt,h.ns,h.nl,h.rows,fun r hr'=>by
  rcases h.hold r hr' with e | e | e
  ·exact .inl e
  ·exact absurd e (hr r hr')
  ·exact .inr (.inr e),h.asc,h.tombs,h.ord,h.nd,h.sess,h.sasc,h.lasts,h.lasc,h.wr,h.wt⟩
theorem VS.shut {s:SD} (h:VS 0 s) (h1:1≤s.idx) {i:Nat} (hi:i<s.sess.length):VS 0 (s.shut i)∧(∀r∈(s.shut i).rows,gi r 3≠gi (rd s.sess i) 0)∧(s.shut i).sess=Zas s.sess i:=by
 have hid:=h.sess _ (Zx hi)
 obtain⟨a,b⟩:=VS.shutL (id:=gi (rd s.sess i) 0) (by omega) (gb (rd s.sess i) 1) s.rows.length 0 _ (h.lose hi) h1 (fun i hi=>absurd hi (Nat.not_lt_zero _)) (Nat.le_refl _)
 exact⟨a.keep b,b,Zf5 _ _ _ _ _⟩
theorem VS.hold' {s:SD} (h:VS 0 s) {key:List V} {n:Int} (hn:∃y∈s.sess,gi y 0=n):VS 0 (s.hold key n):=by
 unfold SD.hold
 cases hf:Zt (fun i=>neq (gl (rd s.rows i) 0) key) 0 s.rows.length with
 | none=>exact h
 | some j=>
  have hj:=Zc5 hf
  have hr:=h.rows _ (Zx hj)
  exact h.setRow hj hr.2.1 (h.wr _ (Zx hj)).2 hr.2.2 (.inr (.inr hn))
theorem ZjQ (s:SD) (key val:List V):(s.put key val).2.sess=s.sess∧(s.put key val).2.idx=s.idx:=by
 unfold SD.put
 cases Zt (fun i=>neq (gl (rd s.rows i) 0) key) 0 s.rows.length with
 | some j=>exact⟨rfl,rfl⟩
 | none=>cases decide (20≤s.rows.length) <;> exact⟨rfl,rfl⟩
structure OpV (k:Int) (ky vl:List V) (n:Int):Prop where
 kk:0≤k∧k≤7
 key:opK k→Zcj ky=true
 nk:¬opK k→ky.length=0
 val:vl.length≤20
 wk:LW ZaB ky
 wv:LW ZaB vl
theorem Zk6 {s:SD} {n:Int} {i:Nat} (h:s.sessAt n=some i):i<s.sess.length∧gi (rd s.sess i) 0=n:=by
 unfold SD.sessAt at h
 obtain⟨-,h1,h2,-⟩:=Z8 h
 exact⟨by omega,of_decide_eq_true h2⟩
theorem VS.do' {s:SD} (h:VS 0 s) (h1:1≤s.idx) (hss:∀y∈s.sess,gi y 0<s.idx) {k:Int} {key val:List V} {n:Int} (ho:OpV k key val n):
  VS 0 (s.do' k key val n).2∧0≤(s.do' k key val n).1∧(s.do' k key val n).1≤4∧(s.do' k key val n).2.idx=s.idx∧((s.do' k key val n).1≠0→(s.do' k key val n).2=s):=by
 have z4:(0:Int)≤4∧(4:Int)≤4:=by decide
 have same:∀c:Int,0≤c→c≤4→VS 0 (c,s).2∧0≤(c,s).1∧(c,s).1≤4∧(c,s).2.idx=s.idx∧((c,s).1≠0→(c,s).2=s):=fun c a b=>⟨h,a,b,rfl,fun _=>rfl⟩
 have well:∀s':SD,VS 0 s'→s'.idx=s.idx→VS 0 ((0:Int),s').2∧0≤((0:Int),s').1∧((0:Int),s').1≤4∧((0:Int),s').2.idx=s.idx∧(((0:Int),s').1≠0→((0:Int),s').2=s):=fun s' a e=>⟨a,Int.le_refl _,by show(0:Int)≤4;decide,e,fun c=>absurd rfl c⟩
 have hpf:(s.put key val).1=false→(s.put key val).2=s:=fun e=>by
  revert e
  unfold SD.put
  cases Zt (fun i=>neq (gl (rd s.rows i) 0) key) 0 s.rows.length with
  | some j=>intro e;cases e
  | none=>cases decide (20≤s.rows.length) with
   | true=>intro _;rfl
   | false=>intro e;cases e
 have hps:opK k→VS 0 (s.puts key val).2∧0≤(s.puts key val).1∧(s.puts key val).1≤4∧(s.puts key val).2.idx=s.idx∧((s.puts key val).1≠0→(s.puts key val).2=s):=fun hk=>by
  have hp:=h.put h1 (ho.key hk) ho.val ho.wk ho.wv
  refine⟨hp,?_,?_,(ZjQ s key val).2,?_⟩
  ·show 0≤Zeb (s.put key val).1;unfold Zeb;cases(s.put key val).1 <;> decide
  ·show Zeb (s.put key val).1≤4;unfold Zeb;cases(s.put key val).1 <;> decide
  ·intro hc
   refine hpf ?_
   cases hb:(s.put key val).1 with
   | false=>rfl
   | true=>exact absurd (show Zeb (s.put key val).1=0 by rw[hb];rfl) hc
 unfold SD.do'
 by_cases h1':k=1
 ·rw[dT h1'];exact hps (.inl h1')
 rw[dF h1']
 by_cases h2:k=2
 ·rw[dT h2]
  simp only[cond_false,cond_true]
  cases decide ((match s.look key with | some j=>gi (rd s.rows j) 2 | none=>0)=n) with
  | true=>exact hps (.inr (.inl h2))
  | false=>exact same 3 (by decide) (by decide)
 rw[dF h2]
 by_cases h3:k=3
 ·rw[dT h3]
  simp only[cond_false,cond_true]
  cases hl:s.look key with
  | none=>exact same 1 (by decide) (by decide)
  | some j=>exact well _ (h.bury h1 (Zi8 hl)) (by unfold SD.bury;cases decide (10<s.tombs.length+1) <;> rfl)
 rw[dF h3]
 by_cases h4:k=4
 ·rw[dT h4]
  simp only[cond_false,cond_true]
  by_cases h8:8≤s.sess.length
  ·rw[dT h8];exact same 4 (by decide) (by decide)
  ·rw[dF h8]
   refine well _ ⟨h.i0,h.i1,h.l0,h.l1,h.nr,h.nt,by show(s.sess++[_]).length≤8;rw[List.length_append,List.length_singleton];omega,h.nl,h.rows,fun r hr=>?_,h.asc,h.tombs,h.ord,h.nd,fun y hy=>?_,Asc.snoc (R:=fun a b=>gi a 0<gi b 0) h.sasc hss,h.lasts,h.lasc,h.wr,h.wt⟩ rfl
   ·rcases h.hold r hr with e | e | ⟨y,hy,e⟩
    ·exact .inl e
    ·exact .inl e
    ·exact .inr (.inr ⟨y,List.mem_append_left _ hy,e⟩)
   ·rcases List.mem_append.1 hy with hy | hy
    ·exact h.sess y hy
    ·rw[List.mem_singleton.1 hy];exact⟨h1,Int.le_refl _⟩
 rw[dF h4]
 by_cases h5:k=5
 ·rw[dT h5]
  simp only[cond_false,cond_true]
  cases hf:s.sessAt n with
  | none=>exact same 1 (by decide) (by decide)
  | some i=>
   have hi:=(Zk6 hf).1
   exact well _ (h.shut h1 hi).1 (ZgK _ _ _ _ _)
 rw[dF h5]
 by_cases h6:k=6
 ·rw[dT h6]
  simp only[cond_false,cond_true]
  cases hf:s.sessAt n with
  | none=>exact same 1 (by decide) (by decide)
  | some i=>
   obtain⟨hi,hin⟩:=Zk6 hf
   have hp:=hps (.inr (.inr (.inr (.inl h6))))
   have fin:VS 0 (bif (s.put key val).1 then((0:Int),(s.put key val).2.hold key n) else(4,(s.put key val).2)).2∧0≤(bif (s.put key val).1 then((0:Int),(s.put key val).2.hold key n) else(4,(s.put key val).2)).1∧(bif (s.put key val).1 then((0:Int),(s.put key val).2.hold key n) else(4,(s.put key val).2)).1≤4∧(bif (s.put key val).1 then((0:Int),(s.put key val).2.hold key n) else(4,(s.put key val).2)).2.idx=s.idx∧((bif (s.put key val).1 then((0:Int),(s.put key val).2.hold key n) else(4,(s.put key val).2)).1≠0→(bif (s.put key val).1 then((0:Int),(s.put key val).2.hold key n) else(4,(s.put key val).2)).2=s):=by
    cases hb:(s.put key val).1 with
    | true=>
     refine well _ (VS.hold' hp.1 ⟨rd s.sess i,?_,hin⟩) ?_
     ·show rd s.sess i∈(s.put key val).2.sess
      rw[(ZjQ s key val).1];exact Zx hi
     ·refine Eq.trans ?_ (ZjQ s key val).2
      unfold SD.hold
      cases Zt (fun i=>neq (gl (rd (s.put key val).2.rows i) 0) key) 0 (s.put key val).2.rows.length <;> rfl
    | false=>rw[hpf hb];exact same 4 (by decide) (by decide)
   cases s.look key with
   | none=>exact fin
   | some j=>
    simp only[]
    cases !decide (gi (rd s.rows j) 3=0) && !decide (gi (rd s.rows j) 3=n) with
    | true=>exact same 2 (by decide) (by decide)
    | false=>exact fin
 rw[dF h6]
 by_cases h7:k=7
 ·rw[dT h7]
  simp only[cond_false,cond_true]
  cases hl:s.look key with
  | none=>exact same 1 (by decide) (by decide)
  | some j=>
   have hj:=Zi8 hl
   have hr:=h.rows _ (Zx hj)
   simp only[]
   cases decide (gi (rd s.rows j) 3=n) with
   | true=>exact well _ (h.setRow hj hr.2.1 (h.wr _ (Zx hj)).2 ⟨h1,Int.le_refl _⟩ (.inl rfl)) rfl
   | false=>exact same 1 (by decide) (by decide)
 rw[dF h7]
 exact same 0 (by decide) (by decide)
def CmdV (c:V):Prop:=gi c 0<0∨(0≤gi c 0∧gi c 0≤3∧1≤gi c 1∧gi c 1≤1000000∧OpV (gi c 2) (gl c 3) (gl c 4) (gi c 5))
theorem VS.up {s:SD} (h:VS 0 s) (hi:s.idx<1000000):VS 0 s.up:=by
 have e:s.up.idx=s.idx+1:=rfl
 have i0:=h.i0
 have l1:=h.l1
 refine⟨by omega,by omega,h.l0,by show s.lost≤s.idx+1;omega,h.nr,h.nt,h.ns,h.nl,fun r hr=>?_,h.hold,h.asc,fun t ht=>?_,h.ord,h.nd,fun y hy=>?_,h.sasc,fun l hl=>?_,h.lasc,h.wr,h.wt⟩
 ·obtain⟨a,b,c,d⟩:=h.rows r hr;exact⟨a,b,c,by omega⟩
 ·obtain⟨a,b,c,d⟩:=h.tombs t ht;exact⟨a,b,by omega,d⟩
 ·obtain⟨a,b⟩:=h.sess y hy;exact⟨a,by omega⟩
 ·obtain⟨a1,a2,a3,a4,a5,a6,a7,a8⟩:=h.lasts l hl;exact⟨a1,a2,a3,a4,a5,a6,a7,by omega⟩
theorem VS.withLasts {s:SD} (h:VS 0 s) {l:List V} (h1:∀x∈l,0≤gi x 0∧gi x 0≤3∧1≤gi x 1∧gi x 1≤1000000∧0≤gi x 2∧gi x 2≤5∧1≤gi x 3∧gi x 3≤s.idx) (h2:AscI l):VS 0 { s with lasts:=l }:=
 ⟨h.i0,h.i1,h.l0,h.l1,h.nr,h.nt,h.ns,ascI_few h2 fun x hx=>⟨(h1 x hx).1,(h1 x hx).2.1⟩,h.rows,h.hold,h.asc,h.tombs,h.ord,h.nd,h.sess,h.sasc,h1,h2,h.wr,h.wt⟩
theorem ZiJ {l:List V} (h:AscI l) {c:Int} (hn:Zgw l c=false) {i:Nat} (hi:i<l.length) (he:lbI l c≤i):c<gi (rd l i) 0:=by
 have e1:=Zfh h c i hi
 rw[decide_eq_false (show ¬i<lbI l c by omega)] at e1
 have e1:¬gi (rd l i) 0<c:=of_decide_eq_false e1
 have hlt:lbI l c<l.length:=by omega
 have e2:gi (rd l (lbI l c)) 0≠c:=fun e=>by
  unfold Zgw at hn
  rw[decide_eq_true hlt,decide_eq_true e] at hn;cases hn
 have e3:=Zfh h c _ hlt
 rw[decide_eq_false (Nat.lt_irrefl _)] at e3
 have e3:¬gi (rd l (lbI l c)) 0<c:=of_decide_eq_false e3
 rcases Nat.lt_or_ge (lbI l c) i with d | d
 ·have:=h.lt _ _ d hi;omega
 ·obtain rfl:i=lbI l c:=by omega
  omega
theorem Zof {s:SD} (h:VS 0 s) (hi:s.idx<1000000) {c:V} (hc:CmdV c):
  (s.apply c=((0,s.idx+1),s.up)∧gi c 0<0)∨
  (0≤gi c 0∧gi c 0≤3∧∃l∈s.lasts,gi l 0=gi c 0∧gi l 1=gi c 1∧s.apply c=((gi l 2,gi l 3),s.up))∨
  (0≤gi c 0∧gi c 0≤3∧∃l∈s.lasts,gi l 0=gi c 0∧gi c 1<gi l 1∧s.apply c=((5,s.idx+1),s.up))∨
  (0≤gi c 0∧gi c 0≤3∧OpV (gi c 2) (gl c 3) (gl c 4) (gi c 5)∧∃L:List V,s.apply c=(((s.up.do' (gi c 2) (gl c 3) (gl c 4) (gi c 5)).1,s.idx+1),{ (s.up.do' (gi c 2) (gl c 3) (gl c 4) (gi c 5)).2 with lasts:=L })∧AscI L∧
   (∀l,l∈L↔l=Zi4 (gi c 0) (gi c 1) (s.up.do' (gi c 2) (gl c 3) (gl c 4) (gi c 5)).1 (s.idx+1)∨(l∈s.lasts∧gi l 0≠gi c 0))∧(∀l∈s.lasts,gi l 0=gi c 0→gi l 1<gi c 1)):=by
 have hlen:=Zk2 s.lasts (gi c 0)
 by_cases h0:gi c 0<0
 ·refine .inl ⟨?_,h0⟩
  unfold SD.apply;rw[dT h0];rfl
 rcases hc with hc | ⟨c0,c3,r1,r2,ho⟩
 ·exact absurd hc h0
 have hsp:=Zfh h.lasc (gi c 0)
 unfold SD.apply
 rw[dF h0,Zk4 h.lasc]
 simp only[cond_false]
 rw[show(decide (lbI s.lasts (gi c 0)<s.lasts.length)&&decide (gi (rd s.lasts (lbI s.lasts (gi c 0))) 0=gi c 0))=Zgw s.lasts (gi c 0) from rfl]
 cases hh:Zgw s.lasts (gi c 0) with
 | true=>
  have hh':=hh
  unfold Zgw at hh'
  rw[Bool.and_eq_true] at hh'
  have hlt:lbI s.lasts (gi c 0)<s.lasts.length:=of_decide_eq_true hh'.1
  have he:gi (rd s.lasts (lbI s.lasts (gi c 0))) 0=gi c 0:=of_decide_eq_true hh'.2
  generalize lbI s.lasts (gi c 0)=p at *
  have uniq:∀l∈s.lasts,gi l 0=gi c 0→l=rd s.lasts p:=fun l hl e=>by
   obtain⟨i,hi,rfl⟩:=ZcK hl
   rcases Nat.lt_trichotomy i p with d | d | d
   ·have:=h.lasc.lt _ _ d hlt;omega
   ·rw[d]
   ·have:=h.lasc.lt _ _ d hi;omega
  by_cases e1:gi (rd s.lasts p) 1=gi c 1
  ·rw[dT e1]
   exact .inr (.inl ⟨c0,c3,_,Zx hlt,he,e1,rfl⟩)
  rw[dF e1]
  by_cases e2:gi c 1<gi (rd s.lasts p) 1
  ·rw[dT e2]
   exact .inr (.inr (.inl ⟨c0,c3,_,Zx hlt,he,e2,rfl⟩))
  rw[dF e2]
  refine .inr (.inr (.inr ⟨c0,c3,ho,_,rfl,?_,fun l=>?_,fun l hl e=>?_⟩))
  ·exact Asc.set (R:=fun a b=>gi a 0<gi b 0) h.lasc (fun a ha=>ha) (fun a ha=>ha)
  ·rw[he,(set_perm hlt _).mem_iff,List.mem_cons]
   have hp:=Zfg hlt
   refine or_congr Iff.rfl ⟨fun hl=>⟨ZbE hl,fun e=>?_⟩,fun⟨hl,hne⟩=>?_⟩
   ·obtain⟨i,hi,rfl⟩:=ZcK hl
    have hrl:=Zde hlt
    rw[rdRm (Nat.le_of_lt hlt)] at e
    by_cases d:i<p
    ·rw[if_pos d] at e
     have:=h.lasc.lt _ _ d hlt;omega
    ·rw[if_neg d] at e
     have:=h.lasc.lt (i+1) p (by omega) (by omega);omega
   ·rcases List.mem_cons.1 (hp.mem_iff.1 hl) with rfl | hl
    ·exact absurd he hne
    ·exact hl
  ·rw[uniq l hl e];omega
 | false=>
  refine .inr (.inr (.inr ⟨c0,c3,ho,_,rfl,?_,fun l=>?_,fun l hl e=>?_⟩))
  ·refine Asc.ins (R:=fun a b=>gi a 0<gi b 0) h.lasc hlen (fun h0=>?_) (fun h0=>?_)
   ·have:=hsp (lbI s.lasts (gi c 0)-1) (by omega)
    rw[decide_eq_true (show lbI s.lasts (gi c 0)-1<lbI s.lasts (gi c 0) by omega)] at this
    exact of_decide_eq_true this
   ·exact ZiJ h.lasc hh h0 (Nat.le_refl _)
  ·rw[(ZhS _ _ _).mem_iff,List.mem_cons]
   refine or_congr Iff.rfl ⟨fun hl=>⟨hl,fun e=>?_⟩,fun hl=>hl.1⟩
   obtain⟨i,hi,rfl⟩:=ZcK hl
   rcases Nat.lt_or_ge i (lbI s.lasts (gi c 0)) with d | d
   ·have:=hsp i hi
    rw[decide_eq_true d] at this
    have:=of_decide_eq_true this;omega
   ·have:=ZiJ h.lasc hh hi d;omega
  ·obtain⟨i,hi,rfl⟩:=ZcK hl
   rcases Nat.lt_or_ge i (lbI s.lasts (gi c 0)) with d | d
   ·have:=hsp i hi
    rw[decide_eq_true d] at this
    have:=of_decide_eq_true this;omega
   ·have:=ZiJ h.lasc hh hi d;omega
theorem VS.apply {s:SD} (h:VS 0 s) (hi:s.idx<1000000) {c:V} (hc:CmdV c):VS 0 (s.apply c).2∧(s.apply c).2.idx=s.idx+1∧1≤(s.apply c).1.2∧(s.apply c).1.2≤s.idx+1:=by
 have i0:=h.i0
 rcases Zof h hi hc with⟨e,-⟩ | ⟨-,-,l,hl,-,-,e⟩ | ⟨-,-,l,hl,-,-,e⟩ | ⟨c0,c3,ho,L,e,hA,hL,-⟩
 ·rw[e];exact⟨h.up hi,rfl,by show 1≤s.idx+1;omega,Int.le_refl _⟩
 ·rw[e]
  have:=h.lasts l hl
  exact⟨h.up hi,rfl,by show 1≤gi l 3;omega,by show gi l 3≤s.idx+1;omega⟩
 ·rw[e];exact⟨h.up hi,rfl,by show 1≤s.idx+1;omega,Int.le_refl _⟩
 ·rcases hc with hc | ⟨-,-,r1,r2,-⟩
  ·omega
  obtain⟨d1,d2,d3,d4,-⟩:=(h.up hi).do' (show 1≤s.idx+1 by omega) (fun y hy=>by have:=h.sess y hy;show gi y 0<s.idx+1;omega) ho
  have d4:_=s.idx+1:=d4
  rw[e]
  refine⟨d1.withLasts (fun x hx=>?_) hA,d4,by show 1≤s.idx+1;omega,Int.le_refl _⟩
  rcases(hL x).1 hx with rfl | ⟨hx,-⟩
  ·refine⟨c0,c3,r1,r2,d2,?_,?_,?_⟩
   ·exact Int.le_trans d3 (by decide)
   ·show 1≤s.idx+1;omega
   ·show s.idx+1≤_;omega
  ·obtain⟨a1,a2,a3,a4,a5,a6,a7,a8⟩:=h.lasts x hx
   exact⟨a1,a2,a3,a4,a5,a6,a7,by omega⟩
end Go.Eng.R
open Go Go.Eng
namespace Go.Eng.R
set_option maxRecDepth 100000
end Go.Eng.R
open Go Go.Eng
namespace Go.Eng.R
def opB (k:Int) (key:Bool) (nk nv:Nat) (n:Int):Bool:=
 decide (nv≤20)&&(decide (0≤n∧n≤1000000) &&
  (bif decide (k=1∨k=2∨k=3∨k=6∨k=7) then key else decide (nk=0)) &&
  ((bif decide (k=1∨k=2∨k=6) then true else decide (nv=0)) &&
  ((bif decide (k=0∨k=1∨k=3) then decide (n=0) else bif decide (k=4) then decide (n≤1) else bif decide (k=2) then true else decide (1≤n))&&decide (0≤k∧k≤7))))
theorem Znv {o:V} (ho:W_Op o):ZgI o=some (opB (gi o 0) (Zcj (gl o 1)) (gl o 1).length (gl o 2).length (gi o 3)):=by
 unfold ZgI
 rw[ZfO ho.2.1]
 simp only[Zea,ZcE,Option.bind_some]
 generalize gi o 0=k
 generalize Zcj (gl o 1)=key
 generalize (gl o 1).length=nk
 generalize (gl o 2).length=nv
 generalize gi o 3=n
 by_cases hk:0≤k∧k≤7
 ·obtain rfl | rfl | rfl | rfl | rfl | rfl | rfl | rfl:k=0∨k=1∨k=2∨k=3∨k=4∨k=5∨k=6∨k=7:=by omega
  all_goals (cases key <;> simp[opB,Bool.cond_eq_ite] <;> (repeat' split) <;> simp_all <;> first | omega | (rw[Bool.eq_iff_iff];simp;omega))
 ·have hh:decide (0≤k∧k≤7)=false:=by simpa using hk
  have h0:decide (k=0)=false:=by simp;omega
  have h1:decide (k=1)=false:=by simp;omega
  have h2:decide (k=2)=false:=by simp;omega
  have h3:decide (k=3)=false:=by simp;omega
  have h4:decide (k=4)=false:=by simp;omega
  have h5:decide (k=5)=false:=by simp;omega
  have h6:decide (k=6)=false:=by simp;omega
  have h7:decide (k=7)=false:=by simp;omega
  simp only[opB,hh,h0,h1,h2,h3,h4,h5,h6,h7,cond_false,Bool.and_false]
theorem Znw {o:V} (ho:W_Op o):ZfD o=some (opB (gi o 0) (Zcj (gl o 1)) (gl o 1).length (gl o 2).length (gi o 3)):=by
 unfold ZfD
 rw[Zma ho.2.1]
 simp only[ZhP,Zgs,Option.bind_some]
 generalize gi o 0=k
 generalize Zcj (gl o 1)=key
 generalize (gl o 1).length=nk
 generalize (gl o 2).length=nv
 generalize gi o 3=n
 by_cases hk:0≤k∧k≤7
 ·obtain rfl | rfl | rfl | rfl | rfl | rfl | rfl | rfl:k=0∨k=1∨k=2∨k=3∨k=4∨k=5∨k=6∨k=7:=by omega
  all_goals (cases key <;> simp[opB,Bool.cond_eq_ite] <;> (repeat' split) <;> simp_all <;> omega)
 ·have hh:decide (0≤k∧k≤7)=false:=by simpa using hk
  simp only[opB,hh,Bool.and_false]
  by_cases h:k<0
  ·simp[h]
  ·rw[show decide (k<0)=false from by simpa using h,show decide (7<k)=true from by simp;omega];rfl
def Zbw (c:V):Bool:=
 bif decide (gi c 0 = -1) then decide (gi c 1=0)&&(decide (gi c 2=0)&&opB (gi c 2) (Zcj (gl c 3)) (gl c 3).length (gl c 4).length (gi c 5))
 else decide (0≤gi c 0∧gi c 0≤3)&&(decide (1≤gi c 1∧gi c 1≤1000000)&&opB (gi c 2) (Zcj (gl c 3)) (gl c 3).length (gl c 4).length (gi c 5))
theorem ZfQ {c:V} (hc:Zce c):ZdD c=some (Zbw c):=by
 unfold ZdD
 rw[Znw (o:=V.agg [(V.int .i64 (gi c 2)),(V.inl Zc (gl c 3)),(V.inl Zc (gl c 4)),(V.int .i64 (gi c 5))]) hc.2.2]
 simp only[Option.bind_some,ZkJ,ZkL,ZkK,ZkM,Zbw]
 generalize opB _ _ _ _ _=z
 by_cases h1:gi c 0 = -1
 ·simp only[h1,decide_true,cond_true]
  by_cases h2:gi c 1=0 <;> by_cases h3:gi c 2=0 <;> simp[h2,h3]
 ·simp only[h1,decide_false,cond_false]
  by_cases h2:0≤gi c 0 <;> by_cases h3:gi c 0<4 <;> by_cases h4:1≤gi c 1 <;> by_cases h5:gi c 1≤1000000 <;> simp[h2,h3,h4,h5] <;> omega
theorem Zpg (l:List V):ZbF (l.map ZaS) []=decide (l.length=0):=by cases l <;> simp[ZbF]
theorem Zlv (c:V):Zez (Zl c) (Zl ZgH)=(decide (gi c 0 = -1)&&(decide (gi c 1=0)&&(decide (gi c 2=0)&&(decide ((gl c 3).length=0)&&(decide ((gl c 4).length=0)&&decide (gi c 5=0)))))):=by
 simp only[Zez,Zgt,ZgH,Zl,ZkJ,ZkL,ZkK,ZkM,Zep,List.map_nil,Zpg]
 by_cases h0:gi c 0 = -1 <;> by_cases h1:gi c 1=0 <;> by_cases h2:gi c 2=0 <;> by_cases h3:(gl c 3).length=0 <;> by_cases h4:(gl c 4).length=0 <;> simp[h0,h1,h2,h3,h4] <;> rfl
theorem ZcT {c:V} (hc:Zce c):Zbd c=some (Zbw c):=by
 unfold Zbd
 rw[Znv (o:=V.agg [(V.int .i64 (gi c 2)),(V.inl Zc (gl c 3)),(V.inl Zc (gl c 4)),(V.int .i64 (gi c 5))]) hc.2.2,Zlv]
 simp only[Option.bind_some,ZkJ,ZkL,ZkK,ZkM,Zbw,Zea]
 by_cases h1:gi c 0 = -1
 ·simp only[h1,decide_true,cond_true,Bool.true_and]
  rw[show decide (0≤(-1:Int)∧(-1:Int)≤3)=false from rfl]
  by_cases h2:gi c 1=0 <;> by_cases h3:gi c 2=0 <;> simp only[h2,h3,decide_true,decide_false,Bool.true_and,Bool.false_and,cond_false]
  simp only[opB]
  by_cases a3:(gl c 3).length=0 <;> by_cases a4:(gl c 4).length=0 <;> by_cases a5:gi c 5=0 <;> simp[a3,a4,a5]
 ·simp only[h1,decide_false,cond_false,Bool.false_and]
  generalize opB _ _ _ _ _=z
  by_cases h2:0≤gi c 0∧gi c 0≤3 <;> by_cases h3:1≤gi c 1∧gi c 1≤1000000 <;> simp[h2,h3]
end Go.Eng.R
open Go Go.Eng
namespace Go.Eng.R
set_option maxRecDepth 100000
structure Eqv (a b:SD):Prop where
 idx:a.idx=b.idx
 lost:a.lost=b.lost
 sess:a.sess=b.sess
 lasts:a.lasts=b.lasts
 rows:SameL RowE a.rows b.rows
 tombs:SameL Zi9 a.tombs b.tombs
theorem own_eqN {s:SD} (h:VS 0 s):∃a,Eqv a s∧((∀r∈a.rows,nrow r=r)∧(∀t∈a.tombs,Zf4 t=t))∧Za8 (Zd s.v)=some a.v:=by
 have n1:=h.nr;have n2:=h.nt;have n3:=h.ns;have n4:=h.nl
 obtain⟨R,T,e,hR,hT,hN⟩:=own_O (s:=s.v) (show s.rows.length≤1000 by omega) (show s.tombs.length≤1000 by omega) (show s.sess.length≤1000 by omega) (show s.lasts.length≤1000 by omega) (fun j hj=>by
  have:=h.rows _ (Zx (show j<s.rows.length from hj))
  have h1:=ZjP this.1
  have h2:=this.2.1
  exact⟨by show(gl (rd s.rows j) 0).length≤1000;omega,by show(gl (rd s.rows j) 1).length≤1000;omega⟩) (fun j hj=>by
  have:=h.tombs _ (Zx (show j<s.tombs.length from hj))
  have h1:=ZjP this.1
  show(gl (rd s.tombs j) 0).length≤1000;omega)
 exact⟨⟨s.idx,R,T,s.lost,s.sess,s.lasts⟩,⟨rfl,rfl,rfl,rfl,hR,hT⟩,hN,e⟩
theorem opB_V {k:Int} {key val:List V} {n:Int} (h:opB k (Zcj key) key.length val.length n=true) (wk:LW ZaB key) (wv:LW ZaB val):OpV k key val n:=by
 unfold opB at h
 simp only[Bool.and_eq_true,decide_eq_true_eq] at h
 obtain⟨h1,⟨-,h3⟩,-,-,h6⟩:=h
 refine⟨h6,fun hk=>?_,fun hk=>?_,h1,wk,wv⟩
 ·rw[decide_eq_true (show k=1∨k=2∨k=3∨k=6∨k=7 from hk)] at h3;exact h3
 ·rw[decide_eq_false (show ¬(k=1∨k=2∨k=3∨k=6∨k=7) from hk)] at h3
  exact of_decide_eq_true h3
theorem Znx {c:V} (hw:Zce c) (h:Zbw c=true):CmdV c:=by
 unfold Zbw at h
 by_cases h1:gi c 0 = -1
 ·exact .inl (by omega)
 ·rw[decide_eq_false h1] at h
  simp only[cond_false,Bool.and_eq_true,decide_eq_true_eq] at h
  exact .inr ⟨h.1.1,h.1.2,h.2.1.1,h.2.1.2,opB_V h.2.2 hw.2.2.2.1 hw.2.2.2.2.1⟩
theorem CmdV.lens {c:V} (hw:Zce c) (h:Zbw c=true):(gl c 3).length≤1000∧(gl c 4).length≤1000∧(opK (gi c 2)→0<(gl c 3).length)∧(gi c 0<0∨(0≤gi c 0∧gi c 0≤3)):=by
 have key:∀{k:Int} {n:Int},opB k (Zcj (gl c 3)) (gl c 3).length (gl c 4).length n=true→(gl c 3).length≤1000∧(gl c 4).length≤1000∧(opK k→0<(gl c 3).length):=fun {k n} h=>by
  have ho:=opB_V h hw.2.2.2.1 hw.2.2.2.2.1
  have hv:=ho.val
  by_cases hk:opK k
  ·have:=ho.key hk
   have h1:=ZjP this
   refine⟨by omega,by omega,fun _=>?_⟩
   unfold Zcj at this
   simp only[Bool.and_eq_true,decide_eq_true_eq] at this
   omega
  ·have:=ho.nk hk
   exact⟨by omega,by omega,fun h=>absurd h hk⟩
 unfold Zbw at h
 by_cases h1:gi c 0 = -1
 ·rw[decide_eq_true h1] at h
  simp only[cond_true,Bool.and_eq_true] at h
  obtain⟨a,b,d⟩:=key h.2.2
  exact⟨a,b,d, .inl (by omega)⟩
 ·rw[decide_eq_false h1] at h
  simp only[cond_false,Bool.and_eq_true,decide_eq_true_eq] at h
  obtain⟨a,b,d⟩:=key h.2.2
  exact⟨a,b,d, .inr h.1⟩
def replyV (a b:Int):V:=V.agg [(V.int .i64 a),(V.int .i64 b)]
end Go.Eng.R
open Go Go.Eng
namespace Go.Eng.R
set_option maxRecDepth 100000
theorem B_Cmd.W {c:V} (h:B_Cmd c):Zce c:=⟨h.1,h.2.1,h.2.2.1,h.2.2.2.1.1,h.2.2.2.2.1.1,h.2.2.2.2.2⟩
theorem VS.zero:VS 0 ⟨0,[],[],0,[],[]⟩:=
 ⟨Int.le_refl _,by decide,Int.le_refl _,Int.le_refl _,Nat.zero_le _,Nat.zero_le _,Nat.zero_le _,Nat.zero_le _,fun _ h=>(by cases h),fun _ h=>(by cases h),fun i h=>absurd h (Nat.not_lt_zero _),fun _ h=>(by cases h),List.Pairwise.nil,List.nodup_nil,fun _ h=>(by cases h),fun i h=>absurd h (Nat.not_lt_zero _),fun _ h=>(by cases h),fun i h=>absurd h (Nat.not_lt_zero _),fun _ h=>(by cases h),fun _ h=>(by cases h)⟩
end Go.Eng.R
open Go Go.Eng
namespace Go.Eng.R
set_option maxRecDepth 100000
end Go.Eng.R
open Go Go.Eng
namespace Go.Eng.R
set_option maxRecDepth 100000
theorem Zny {x y:SD} (h:SameL RowE x.rows y.rows) (hl:x.rows.length≤1000):Zay (x.rows.length+1) 0 x.v y.v=some (1,false,x.v,y.v):=by
 refine ZfB (F:=fun m i=>Zay m i x.v y.v) ?_ ?_
 ·intro m i hi
  have hy:i<y.rows.length:=by rw[←h.1];exact hi
  obtain⟨q1,q2,q3,q4⟩:=h.2 i hy
  show Zay (m+1) (i:Int) x.v y.v=_
  rw[Zay]
  simp only[show gl x.v 1=x.rows from rfl,show gl y.v 1=y.rows from rfl,Zaj hi,Zq hi,Zq hy,Int.toNat_natCast,cond_true,q1,q2,q3,q4,show ∀a,Zcy a a=true from fun a=>ZeH a,Bool.not_true,cond_false,decide_true,Zah hi (show x.rows.length≤9223372036854775807 by omega)]
  rfl
 ·intro m
  show Zay (m+1) ((x.rows.length:Nat):Int) x.v y.v=_
  rw[Zay,show gl x.v 1=x.rows from rfl,Zab];rfl
theorem Zmf {x y:SD} (h:SameL Zi9 x.tombs y.tombs) (hl:x.tombs.length≤1000):Zao (x.tombs.length+1) 0 x.v y.v=some (1,false,x.v,y.v):=by
 refine ZfB (F:=fun m i=>Zao m i x.v y.v) ?_ ?_
 ·intro m i hi
  have hy:i<y.tombs.length:=by rw[←h.1];exact hi
  obtain⟨q1,q2⟩:=h.2 i hy
  show Zao (m+1) (i:Int) x.v y.v=_
  rw[Zao]
  simp only[show gl x.v 2=x.tombs from rfl,show gl y.v 2=y.tombs from rfl,Zaj hi,Zq hi,Zq hy,Int.toNat_natCast,cond_true,q1,q2,show ∀a,Zcy a a=true from fun a=>ZeH a,Bool.not_true,cond_false,decide_true,Zah hi (show x.tombs.length≤9223372036854775807 by omega)]
  rfl
 ·intro m
  show Zao (m+1) ((x.tombs.length:Nat):Int) x.v y.v=_
  rw[Zao,show gl x.v 2=x.tombs from rfl,Zab];rfl
theorem Zmg {x y:SD} (h:x.sess=y.sess) (hl:x.sess.length≤1000):Zap (x.sess.length+1) 0 x.v y.v=some (1,false,x.v,y.v):=by
 refine ZfB (F:=fun m i=>Zap m i x.v y.v) ?_ ?_
 ·intro m i hi
  show Zap (m+1) (i:Int) x.v y.v=_
  rw[Zap]
  simp only[show gl x.v 4=x.sess from rfl,show gl y.v 4=y.sess from rfl,←h,Zaj hi,Zq hi,Int.toNat_natCast,cond_true,beq_self_eq_true,Bool.and_self,Bool.not_true,cond_false,decide_true,Zah hi (show x.sess.length≤9223372036854775807 by omega)]
  rfl
 ·intro m
  show Zap (m+1) ((x.sess.length:Nat):Int) x.v y.v=_
  rw[Zap,show gl x.v 4=x.sess from rfl,Zab];rfl
theorem Zmh {x y:SD} (h:x.lasts=y.lasts) (hl:x.lasts.length≤1000):Zaq (x.lasts.length+1) 0 x.v y.v=some (1,false):=by
 refine ZfB (F:=fun m i=>Zaq m i x.v y.v) ?_ ?_
 ·intro m i hi
  show Zaq (m+1) (i:Int) x.v y.v=_
  rw[Zaq]
  simp only[show gl x.v 5=x.lasts from rfl,show gl y.v 5=y.lasts from rfl,←h,Zaj hi,Zq hi,Int.toNat_natCast,cond_true,Bool.and_self,Bool.not_true,cond_false,decide_true,Zah hi (show x.lasts.length≤9223372036854775807 by omega)]
  rfl
 ·intro m
  show Zaq (m+1) ((x.lasts.length:Nat):Int) x.v y.v=_
  rw[Zaq,show gl x.v 5=x.lasts from rfl,Zab];rfl
theorem Znz {x y:SD} (e:Eqv x y) (hx:x.rows.length≤1000∧x.tombs.length≤1000∧x.sess.length≤1000∧x.lasts.length≤1000):Zcz x.v y.v=some true:=by
 unfold Zcz
 simp only[show gl x.v 1=x.rows from rfl,show gl x.v 2=x.tombs from rfl,show gl x.v 4=x.sess from rfl,show gl x.v 5=x.lasts from rfl,show gi x.v 0=x.idx from rfl,show gi x.v 3=x.lost from rfl,show gl y.v 1=y.rows from rfl,show gl y.v 2=y.tombs from rfl,show gl y.v 4=y.sess from rfl,show gl y.v 5=y.lasts from rfl,show gi y.v 0=y.idx from rfl,show gi y.v 3=y.lost from rfl,←e.idx,←e.lost,←e.sess,←e.lasts,←e.rows.1,←e.tombs.1,decide_true,Bool.not_true,cond_false,show Zd x.v=x.v from rfl,show Zd y.v=y.v from rfl,Za0,Zny e.rows hx.1,Option.bind_some,show Nat.beq 1 0=false from rfl,Zmf e.tombs hx.2.1,Zmg e.sess hx.2.2.1,Zmh e.lasts hx.2.2.2]
end Go.Eng.R
open Go Go.Eng
namespace Go.Eng.R
set_option maxRecDepth 100000
structure Norm (s:SD):Prop where
 rows:∀r∈s.rows,nrow r=r
 tombs:∀t∈s.tombs,Zf4 t=t
theorem Norm.zero:Norm ⟨0,[],[],0,[],[]⟩:=⟨fun _ h=>(by cases h),fun _ h=>(by cases h)⟩
theorem Norm.bury {s:SD} (h:Norm s) (i:Nat):Norm (s.bury i):=by
 have ht:∀t∈s.tombs++[Zc3 (gl (rd s.rows i) 0) s.idx],Zf4 t=t:=fun t ht=>by
  rcases List.mem_append.1 ht with ht | ht
  ·exact h.tombs t ht
  ·rw[List.mem_singleton.1 ht];rfl
 unfold SD.bury
 cases decide (10<s.tombs.length+1) with
 | true=>exact⟨fun r hr=>h.rows r (ZbE hr),fun t h'=>ht t (List.mem_of_mem_drop h')⟩
 | false=>exact⟨fun r hr=>h.rows r (ZbE hr),ht⟩
theorem Norm.setRow {s:SD} (h:Norm s) (j:Nat) (k v:List V) (t o:Int):Norm { s with rows:=s.rows.set j (Za5 k v t o) }:=
 ⟨fun r hr=>by
  rcases List.mem_or_eq_of_mem_set hr with hr | hr
  ·exact h.rows r hr
  ·rw[hr];rfl,h.tombs⟩
theorem Norm.put {s:SD} (h:Norm s) (key val:List V):Norm (s.put key val).2:=by
 unfold SD.put
 cases Zt (fun i=>neq (gl (rd s.rows i) 0) key) 0 s.rows.length with
 | some j=>exact h.setRow j _ _ _ _
 | none=>
  cases decide (20≤s.rows.length) with
  | true=>exact h
  | false=>
   refine⟨fun r hr=>?_,fun t ht=>?_⟩
   ·rcases ZeO hr with rfl | hr
    ·rfl
    ·exact h.rows r hr
   ·revert ht
    show t∈(match Zt (fun i=>neq (gl (rd s.tombs i) 0) key) 0 s.tombs.length with | some j=>Zas s.tombs j | none=>s.tombs)→_
    cases Zt (fun i=>neq (gl (rd s.tombs i) 0) key) 0 s.tombs.length with
    | some j=>exact fun ht=>h.tombs t (ZbE ht)
    | none=>exact fun ht=>h.tombs t ht
theorem Norm.hold {s:SD} (h:Norm s) (key:List V) (n:Int):Norm (s.hold key n):=by
 unfold SD.hold
 cases Zt (fun i=>neq (gl (rd s.rows i) 0) key) 0 s.rows.length with
 | none=>exact h
 | some j=>exact h.setRow j _ _ _ _
theorem Norm.shutL (id:Int) (del:Bool):∀(n k:Nat) (s:SD),Norm s→Norm (SD.shutL id del n k s)
 | 0,_,_,h=>h
 | n+1,k,s,h=>by
  rw[SD.shutL]
  cases decide (k<s.rows.length) with
  | false=>exact h
  | true=>
   cases decide (gi (rd s.rows k) 3=id) with
   | false=>exact Norm.shutL id del n (k+1) s h
   | true=>
    cases del with
    | true=>exact Norm.shutL id true n k _ (h.bury k)
    | false=>exact Norm.shutL id false n (k+1) _ (h.setRow k _ _ _ _)
theorem Norm.shut {s:SD} (h:Norm s) (i:Nat):Norm (s.shut i):=Norm.shutL _ _ _ _ _ ⟨h.rows,h.tombs⟩
theorem Norm.do' {s:SD} (h:Norm s) (k:Int) (key val:List V) (n:Int):Norm (s.do' k key val n).2:=by
 have hp:=h.put key val
 unfold SD.do'
 cases decide (k=1) with
 | true=>exact hp
 | false=>
 cases decide (k=2) with
 | true=>
  show Norm (bif _ then s.puts key val else(3,s)).2
  cases decide ((match s.look key with | some j=>gi (rd s.rows j) 2 | none=>0)=n) with
  | true=>exact hp
  | false=>exact h
 | false=>
 cases decide (k=3) with
 | true=>
  show Norm (match s.look key with | some j=>((0:Int),s.bury j) | none=>(1,s)).2
  cases s.look key with
  | some j=>exact h.bury j
  | none=>exact h
 | false=>
 cases decide (k=4) with
 | true=>
  show Norm (bif decide (8≤s.sess.length) then((4:Int),s) else(0,{ s with sess:=s.sess++[ZhR s.idx (decide (n=1))] })).2
  cases decide (8≤s.sess.length) with
  | true=>exact h
  | false=>exact⟨h.rows,h.tombs⟩
 | false=>
 cases decide (k=5) with
 | true=>
  show Norm (match s.sessAt n with | some i=>((0:Int),s.shut i) | none=>(1,s)).2
  cases s.sessAt n with
  | some i=>exact h.shut i
  | none=>exact h
 | false=>
 cases decide (k=6) with
 | true=>
  show Norm (match s.sessAt n with
   | none=>((1:Int),s)
   | some _=>bif (match s.look key with | some j=>!decide (gi (rd s.rows j) 3=0) && !decide (gi (rd s.rows j) 3=n) | none=>false) then(2,s)
    else bif (s.put key val).1 then(0,(s.put key val).2.hold key n) else(4,(s.put key val).2)).2
  cases s.sessAt n with
  | none=>exact h
  | some i=>
   cases(match s.look key with | some j=>!decide (gi (rd s.rows j) 3=0) && !decide (gi (rd s.rows j) 3=n) | none=>false) with
   | true=>exact h
   | false=>
    show Norm (bif (s.put key val).1 then((0:Int),(s.put key val).2.hold key n) else(4,(s.put key val).2)).2
    cases(s.put key val).1 with
    | true=>exact hp.hold key n
    | false=>exact hp
 | false=>
 cases decide (k=7) with
 | true=>
  show Norm (match s.look key with
   | some j=>bif decide (gi (rd s.rows j) 3=n) then((0:Int),{ s with rows:=s.rows.set j (Za5 (gl (rd s.rows j) 0) (gl (rd s.rows j) 1) s.idx 0) }) else(1,s)
   | none=>(1,s)).2
  cases s.look key with
  | none=>exact h
  | some j=>
   dsimp only
   cases decide (gi (rd s.rows j) 3=n) with
   | true=>exact h.setRow j _ _ _ _
   | false=>exact h
 | false=>exact h
theorem Norm.up {s:SD} (h:Norm s):Norm s.up:=⟨h.rows,h.tombs⟩
theorem Norm.apply {s:SD} (h:Norm s) (c:V):Norm (s.apply c).2:=by
 have hd:=h.up.do' (gi c 2) (gl c 3) (gl c 4) (gi c 5)
 unfold SD.apply
 cases decide (gi c 0<0) with
 | true=>exact h.up
 | false=>
 cases(decide (Za9 s.lasts (gi c 0)<s.lasts.length)&&decide (gi (rd s.lasts (Za9 s.lasts (gi c 0))) 0=gi c 0)) with
 | false=>exact⟨hd.rows,hd.tombs⟩
 | true=>
 cases decide (gi (rd s.lasts (Za9 s.lasts (gi c 0))) 1=gi c 1) with
 | true=>exact h.up
 | false=>
 cases decide (gi c 1<gi (rd s.lasts (Za9 s.lasts (gi c 0))) 1) with
 | true=>exact h.up
 | false=>exact⟨hd.rows,hd.tombs⟩
theorem Norm.eq {a b:SD} (ha:Norm a) (hb:Norm b) (e:Eqv a b):a=b:=by
 have hr:a.rows=b.rows:=by
  refine List.ext_getElem e.rows.1 fun i h1 h2=>?_
  obtain⟨q1,q2,q3,q4⟩:=e.rows.2 i h2
  rw[←Zdg h1,←Zdg h2,←ha.rows _ (Zx h1),←hb.rows _ (Zx h2)]
  unfold nrow
  rw[q1,q2,q3,q4]
 have ht:a.tombs=b.tombs:=by
  refine List.ext_getElem e.tombs.1 fun i h1 h2=>?_
  obtain⟨q1,q2⟩:=e.tombs.2 i h2
  rw[←Zdg h1,←Zdg h2,←ha.tombs _ (Zx h1),←hb.tombs _ (Zx h2)]
  unfold Zf4
  rw[q1,q2]
 obtain⟨a1,a2,a3,a4,a5,a6⟩:=a
 obtain⟨b1,b2,b3,b4,b5,b6⟩:=b
 have e1:a1=b1:=e.idx
 have e4:a4=b4:=e.lost
 have e5:a5=b5:=e.sess
 have e6:a6=b6:=e.lasts
 have hr:a2=b2:=hr
 have ht:a3=b3:=ht
 subst e1;subst e4;subst e5;subst e6;subst hr;subst ht
 rfl
theorem own_N {s:SD} (h:VS 0 s) (hn:Norm s):Za8 (Zd s.v)=some s.v:=by
 obtain⟨a,e1,e2,e3⟩:=own_eqN h
 rw[e3,Norm.eq ⟨e2.1,e2.2⟩ hn e1]
theorem Apply_N {s:SD} (h:VS 0 s) (hn:Norm s) (hi:s.idx<1000000) {c:V} (hc:Zce c) (hcb:Zbw c=true):
  Zf0 (Zd s.v) (Zl c)=some ((s.apply c).2.v,replyV (s.apply c).1.1 (s.apply c).1.2):=by
 obtain⟨l1,l2,l3,l4⟩:=CmdV.lens hc hcb
 have i0:=h.i0;have i1:=h.i1;have n4:=h.nl
 have hap:=Zh3 (s:=s) (c:=c) h.asc h.nr h.nt h.ns (by omega) h.lasc (fun i hi=>by have:=h.lasts _ (Zx hi);exact⟨this.1,this.2.1⟩) i0 (by omega) l1 l2 l3 l4
 have hce:Zbd (Zl c)=some (Zbw c):=ZcT hc
 unfold Zf0
 rw[show Zd (Zd s.v)=Zd s.v from rfl,show Zl (Zl c)=Zl c from rfl,ZgJ h.W,h.B,hce,hcb]
 simp only[Option.bind_some,Bool.not_true,cond_false]
 rw[decide_eq_false (show ¬gi (Zd s.v) 0=1000000 by show ¬s.idx=1000000;omega),own_N h hn]
 simp only[cond_false,Option.bind_some]
 rw[show Zd s.v=s.v from rfl,hap]
 rfl
end Go.Eng.R
open Go Go.Eng
namespace Go.Eng.R
set_option maxRecDepth 100000
def SD.zero:SD:=⟨0,[],[],0,[],[]⟩
def runS (s:SD):List V→SD
 | []=>s
 | c :: l=>runS (s.apply c).2 l
def ZfR (s:SD):List V→List (Int×Int)
 | []=>[]
 | c :: l=>(s.apply c).1 :: ZfR (s.apply c).2 l
theorem ZjR (s:SD):∀(a b:List V),runS s (a++b)=runS (runS s a) b
 | [],_=>rfl
 | c :: a,b=>ZjR (s.apply c).2 a b
theorem ZnA (s:SD):∀(a b:List V),ZfR s (a++b)=ZfR s a++ZfR (runS s a) b
 | [],_=>rfl
 | c :: a,b=>by
  show(s.apply c).1 :: ZfR (s.apply c).2 (a++b)=_
  rw[ZnA (s.apply c).2 a b];rfl
theorem ZjS (s:SD):∀(l:List V),(ZfR s l).length=l.length
 | []=>rfl
 | c :: l=>congrArg (·+ 1) (ZjS (s.apply c).2 l)
theorem ZgL (s:SD) (l:List V) (c:V):runS s (l++[c])=((runS s l).apply c).2:=ZjR s l [c]
theorem Zp2 (s:SD) (l:List V) (c:V):ZfR s (l++[c])=ZfR s l++[((runS s l).apply c).1]:=ZnA s l [c]
theorem ZjT:∀(l:List V) {s:SD},VS 0 s→Norm s→(∀c∈l,CmdV c)→s.idx+(l.length:Int)≤1000000→VS 0 (runS s l)∧Norm (runS s l)∧(runS s l).idx=s.idx+(l.length:Int)
 | [],s,h,hn,_,_=>⟨h,hn,by show s.idx=s.idx+0;omega⟩
 | c :: l,s,h,hn,hc,hi=>by
  rw[List.length_cons] at hi
  have i0:=h.i0
  obtain⟨a1,a2,-,-⟩:=h.apply (show s.idx<1000000 by omega) (hc c (List.mem_cons_self ..))
  obtain⟨b1,b2,b3⟩:=ZjT l a1 (hn.apply c) (fun d hd=>hc d (List.mem_cons_of_mem _ hd)) (by rw[a2];omega)
  refine⟨b1,b2,?_⟩
  show(runS (s.apply c).2 l).idx=_
  rw[b3,a2,List.length_cons];omega
def repV (r:Int×Int):V:=replyV r.1 r.2
theorem ZiK {s:SD} (h:VS 0 s) (hi:s.idx<1000000) {c:V} (hc:Zce c) (hcb:Zbw c=true):Za4 s.v (Zl c)=some (repV (s.apply c).1,(s.apply c).2.v):=by
 obtain⟨l1,l2,l3,l4⟩:=CmdV.lens hc hcb
 have i0:=h.i0;have i1:=h.i1;have n4:=h.nl
 exact Zh3 (s:=s) (c:=c) h.asc h.nr h.nt h.ns (by omega) h.lasc (fun i hi=>by have:=h.lasts _ (Zx hi);exact⟨this.1,this.2.1⟩) i0 (by omega) l1 l2 l3 l4
def okN (l:List V) (cm:V→V):Nat:=(l.takeWhile fun f=>Zbw (cm f)).length
theorem ZiL (l:List V) (cm:V→V):okN l cm≤l.length:=(List.takeWhile_prefix _).length_le
theorem Zk7 {l:List V} {cm:V→V} {i:Nat} (h:i<okN l cm):Zbw (cm (rd l i))=true:=by
 unfold okN at h
 have hp:=List.takeWhile_prefix (fun f=>Zbw (cm f)) (l:=l)
 have hl:i<l.length:=Nat.lt_of_lt_of_le h hp.length_le
 have e:(l.takeWhile fun f=>Zbw (cm f))[i]=l[i]:=hp.getElem h
 have hm:=List.getElem_mem h
 have:=List.all_takeWhile (p:=fun f=>Zbw (cm f)) (l:=l)
 rw[List.all_eq_true] at this
 have:=this _ hm
 rw[e] at this
 rw[Zdg hl];exact this
theorem ZoI {l:List V} {cm:V→V} (h:okN l cm<l.length):Zbw (cm (rd l (okN l cm)))=false:=by
 unfold okN at h ⊢
 induction l with
 | nil=>simp at h
 | cons x l ih=>
  cases hx:Zbw (cm x) with
  | false=>rw[List.takeWhile_cons_of_neg (by rw[hx];exact Bool.false_ne_true)];exact hx
  | true=>
   rw[List.takeWhile_cons_of_pos (by exact hx)] at h ⊢
   rw[List.length_cons] at h ⊢
   exact ih (by simpa using h)
end Go.Eng.R
open Go Go.Eng
namespace Go.Eng.R
set_option maxRecDepth 100000
theorem Zf6 {l:List V} {i:Nat} (h:i<l.length):l.take (i+1)=l.take i++[rd l i]:=by
 rw[List.take_add_one]
 have:l[i]? = some (rd l i):=by simp[rd,List.getD,h]
 rw[this];rfl
def cmF (f:V):V:=V.agg [(V.int .i64 (gi f 1)),(V.int .i64 (gi f 2)),(V.int .i64 (gi f 3)),(V.inl Zc (gl f 4)),(V.inl Zc (gl f 5)),(V.int .i64 (gi f 6))]
theorem Zp3:ZdV=Za4:=by kernel_rfl
theorem ZfS {n:Int} (hn:n≤20):∀(k i:Nat) (c:V) (r:List V),ZP c→(∀f∈r,B_Cmd (cmF f))→r.length≤i→(i:Int)≤n→(n-(i:Int)).toNat<k→
  Ok (fun l=>l.length≤20∧∀f∈l,B_Cmd (cmF f)) (ZaK k n (i:Int) (Zb c) r)
 | 0,i,c,r,hc,hr,hl,hi,hk=>by omega
 | k+1,i,c,r,hc,hr,hl,hi,hk=>by
  rw[ZaK]
  by_cases hin:(i:Int)<n
  case neg=>rw[decide_eq_false hin];exact⟨_,rfl,by omega,hr⟩
  rw[decide_eq_true hin]
  simp only[cond_true]
  have ew:IntKind.i64.wrap ((i:Int)+1)=((i+1:Nat):Int):=by rw[Zax (by omega) (by omega)];omega
  refine Ok.bind2 (ZiI hc) ?_
  rintro x c1 ⟨h1,hx⟩
  refine Ok.bind (Q:=fun _=>True) ⟨_,ZfQ hx.W,trivial⟩ ?_
  rintro b -
  rw[ew]
  have more:∀cur:V,ZP cur→Ok (fun l:List V=>l.length≤20∧∀f∈l,B_Cmd (cmF f)) (bif (Zv (r.length+1) 88&&true) then ZaK k n ((i+1:Nat):Int) (Zb cur) (r++[(V.agg [(V.int .i64 (i:Int)),(V.int .i64 (gi x 0)),(V.int .i64 (gi x 1)),(V.int .i64 (gi x 2)),(V.inl Zc (gl x 3)),(V.inl Zc (gl x 4)),(V.int .i64 (gi x 5))])]) else none):=fun cur hcur=>by
   refine .chk (Z4 (by omega) (by omega)) ?_
   refine ZfS hn k (i+1) cur _ hcur (fun f hf=>?_) (by rw[List.length_append,List.length_singleton];omega) (by omega) (by omega)
   rcases List.mem_append.1 hf with hf | hf
   ·exact hr f hf
   ·rw[List.mem_singleton.1 hf];exact hx
  refine .ite (fun _=>more c1 h1) (fun _=>?_)
  refine Ok.bind (ZfF h1 12) ?_
  rintro⟨b2,c2⟩ h2
  refine .ite (fun _=>more c2 h2) (fun _=>?_)
  exact ZfS hn k (i+1) c2 r h2 hr (by omega) (by omega) (by omega)
theorem ZnB {code:List V} (h:LW ZaB code):Ok (fun l=>l.length≤20∧∀f∈l,B_Cmd (cmF f)) (ZdY code):=by
 unfold ZdY
 refine Ok.bind (new_O h) ?_
 intro c0 h0
 refine Ok.bind2 (Zb1 h0 20) ?_
 rintro n c1 ⟨h1,n0,-,n2⟩
 refine Ok.bind (ZfS (n:=n) (by omega) ((n-0).toNat+1) 0 c1 [] h1 (fun _ h=>(by cases h)) (Nat.zero_le _) n0 (by omega)) ?_
 intro l hl
 exact⟨_,rfl,hl⟩
def Zel (l:List V):SD:=runS SD.zero ((l.take (okN l cmF)).map cmF)
def folR (l:List V):List (Int×Int):=ZfR SD.zero ((l.take (okN l cmF)).map cmF)
theorem SD.zero_norm:Norm SD.zero:=Norm.zero
theorem SD.zero_vs:VS 0 SD.zero:=VS.zero
theorem cmds_ok {l:List V} (hl:∀f∈l,Zce (cmF f)) {i:Nat} (hi:i≤okN l cmF):∀c∈(l.take i).map cmF,CmdV c:=fun c hc=>by
 obtain⟨f,hf,rfl⟩:=List.mem_map.1 hc
 obtain⟨j,hj,rfl⟩:=ZcK hf
 have hle:=ZiL l cmF
 rw[List.length_take] at hj
 have e:rd (l.take i) j=rd l j:=by simp[rd,List.getD,List.getElem?_take,show j<i by omega]
 rw[e]
 exact Znx (hl _ (Zx (by omega))) (Zk7 (by omega))
theorem ZhV {l:List V} (hl:∀f∈l,Zce (cmF f)) (hn:l.length≤400) {i:Nat} (hi:i≤okN l cmF):VS 0 (runS SD.zero ((l.take i).map cmF))∧Norm (runS SD.zero ((l.take i).map cmF))∧(runS SD.zero ((l.take i).map cmF)).idx=(i:Int):=by
 have hle:=ZiL l cmF
 have hlen:((l.take i).map cmF).length=i:=by rw[List.length_map,List.length_take];omega
 obtain⟨a,b,c⟩:=ZjT ((l.take i).map cmF) SD.zero_vs SD.zero_norm (cmds_ok hl hi) (by rw[hlen];show(0:Int)+(i:Int)≤1000000;omega)
 refine⟨a,b,?_⟩
 rw[c,hlen];show(0:Int)+(i:Int)=i;omega
theorem ZfT {l:List V} {i:Nat} (h:i<l.length):(l.take (i+1)).map cmF=(l.take i).map cmF++[cmF (rd l i)]:=by
 rw[Zf6 h,List.map_append];rfl
theorem Zp4 {l:List V} (hl:∀f∈l,Zce (cmF f)) (hn:l.length≤400) (b0:V) (r3 r4 r5 r6:List V):
  ∃b0' r3' r4' r5' r6',ZaF (l.length+1) l ((l.length:Nat):Int) 0 b0 (SD.zero.b 7 8 9 10) [] r3 r4 r5 r6 SD.zero.rows SD.zero.tombs SD.zero.sess SD.zero.lasts =
   some (b0',(Zel l).b 7 8 9 10,(folR l).map repV,r3',r4',r5',r6',(Zel l).rows,(Zel l).tombs,(Zel l).sess,(Zel l).lasts):=by
 have hle:=ZiL l cmF
 refine Zca (σ:=V×SD×List (Int×Int)) (F:=fun m q i=>ZaF m l ((l.length:Nat):Int) i q.1 (q.2.1.b 7 8 9 10) (q.2.2.map repV) r3 r4 r5 r6 q.2.1.rows q.2.1.tombs q.2.1.sess q.2.1.lasts) (n:=l.length)
  (fun i q=>i≤okN l cmF∧q.2.1=runS SD.zero ((l.take i).map cmF)∧q.2.2=ZfR SD.zero ((l.take i).map cmF))
  (fun o=>∃b0' r3' r4' r5' r6',o=some (b0',(Zel l).b 7 8 9 10,(folR l).map repV,r3',r4',r5',r6',(Zel l).rows,(Zel l).tombs,(Zel l).sess,(Zel l).lasts)) ?_ ?_ (s:=(b0,SD.zero,[])) ⟨Nat.zero_le _,rfl,rfl⟩
 ·rintro m i ⟨b,s,R⟩ hi ⟨h1,h2,h3⟩
  have h2:s=runS SD.zero ((l.take i).map cmF):=h2
  have h3:R=ZfR SD.zero ((l.take i).map cmF):=h3
  have hw:=hl _ (Zx hi)
  have hce:Zbd (cmF (rd l i))=some (Zbw (cmF (rd l i))):=ZcT hw
  by_cases hlt:i<okN l cmF
  ·have hok:=Zk7 hlt
   obtain⟨g1,g2,g3⟩:=ZhV hl hn (i:=i) (by omega)
   rw[←h2] at g1 g2 g3
   have hap:=ZiK g1 (show s.idx<1000000 by omega) hw hok
   have hRl:R.length=i:=by rw[h3,ZjS,List.length_map,List.length_take];omega
   refine .inl ⟨((V.agg [(V.int .i64 (gi b 0)),(V.sl 3 Zg 0 none),(V.sl 4 Zf 0 none),(V.int .i64 (gi b 3)),(V.sl 5 Za 0 none),(V.sl 6 Ze 0 none)]),(s.apply (cmF (rd l i))).2,R++[(s.apply (cmF (rd l i))).1]),?_,by omega,?_,?_⟩
   ·show ZaF (m+1) l ((l.length:Nat):Int) (i:Int) b (s.b 7 8 9 10) (R.map repV) r3 r4 r5 r6 s.rows s.tombs s.sess s.lasts=_
    rw[ZaF,Zaj hi,Zq hi,Int.toNat_natCast]
    simp only[cond_true]
    refine Eq.trans (congrArg (fun o=>Option.bind o _) (show _=_ from hce)) ?_
    rw[hok,Zp3]
    simp only[Option.bind_some,Bool.not_true,cond_false]
    refine Eq.trans (congrArg (fun o=>Option.bind o _) (show _=_ from hap)) ?_
    simp only[Option.bind_some]
    rw[List.length_map,hRl,Z4 (by omega) (by omega),Zah hi (by omega)]
    simp only[cond_true,List.map_append,List.map_cons,List.map_nil]
    rfl
   ·show(s.apply (cmF (rd l i))).2=_
    rw[ZfT hi,ZgL,←h2]
   ·show R++[(s.apply (cmF (rd l i))).1]=_
    rw[ZfT hi,Zp2,←h2,←h3]
  ·have e:i=okN l cmF:=by omega
   have hno:Zbw (cmF (rd l i))=false:=by rw[e];exact ZoI (by omega)
   refine .inr ⟨(V.agg [(V.int .i64 (gi b 0)),(V.sl 3 Zg 0 none),(V.sl 4 Zf 0 none),(V.int .i64 (gi b 3)),(V.sl 5 Za 0 none),(V.sl 6 Ze 0 none)]),r3,r4,r5,r6,?_⟩
   show ZaF (m+1) l ((l.length:Nat):Int) (i:Int) b (s.b 7 8 9 10) (R.map repV) r3 r4 r5 r6 s.rows s.tombs s.sess s.lasts=_
   rw[ZaF,Zaj hi,Zq hi,Int.toNat_natCast]
   simp only[cond_true]
   refine Eq.trans (congrArg (fun o=>Option.bind o _) (show _=_ from hce)) ?_
   rw[hno]
   unfold Zel folR
   rw[←e,←h2,←h3]
   rfl
 ·rintro m ⟨b,s,R⟩ ⟨h1,h2,h3⟩
  have h2:s=runS SD.zero ((l.take l.length).map cmF):=h2
  have h3:R=ZfR SD.zero ((l.take l.length).map cmF):=h3
  have e:okN l cmF=l.length:=by omega
  refine⟨(V.agg [(V.int .i64 (gi b 0)),(V.sl 3 Zg 0 none),(V.sl 4 Zf 0 none),(V.int .i64 (gi b 3)),(V.sl 5 Za 0 none),(V.sl 6 Ze 0 none)]),r3,r4,r5,r6,?_⟩
  show ZaF (m+1) l ((l.length:Nat):Int) ((l.length:Nat):Int) b (s.b 7 8 9 10) (R.map repV) r3 r4 r5 r6 s.rows s.tombs s.sess s.lasts=_
  rw[ZaF,Zab]
  unfold Zel folR
  rw[e,←h2,←h3]
  rfl
theorem Zp5 {l:List V} (hl:∀f∈l,Zce (cmF f)) (hn:l.length≤400):Zfq l=some ((Zel l).v,(folR l).map repV):=by
 unfold Zfq
 rw[decide_eq_false (show ¬(400:Int)<((l.length:Nat):Int) by omega),cond_false,Za0]
 obtain⟨b0,r3,r4,r5,r6,e⟩:=Zp4 hl hn (V.agg [(V.int .i64 0),(V.sl 3 Zg 0 none),(V.sl 4 Zf 0 none),(V.int .i64 0),(V.sl 5 Za 0 none),(V.sl 6 Ze 0 none)]) [] [] [] []
 refine Eq.trans (congrArg (fun o=>Option.bind o _) (show _=_ from e)) ?_
 rfl
theorem folR_len (l:List V):(folR l).length=okN l cmF:=by
 have:=ZiL l cmF
 unfold folR;rw[ZjS,List.length_map,List.length_take];omega
end Go.Eng.R
open Go Go.Eng
namespace Go.Eng.R
set_option maxRecDepth 100000
theorem Eqv.rfl' (a:SD):Eqv a a:=⟨rfl,rfl,rfl,rfl,⟨rfl,fun _ _=>⟨rfl,rfl,rfl,rfl⟩⟩,⟨rfl,fun _ _=>⟨rfl,rfl⟩⟩⟩
theorem Zhl {a:SD} (h:VS 0 a):Zcz a.v a.v=some true:=by
 have n1:=h.nr;have n2:=h.nt;have n3:=h.ns;have n4:=h.nl
 exact Znz (Eqv.rfl' a) ⟨by omega,by omega,by omega,by omega⟩
end Go.Eng.R
open Go Go.Eng
namespace Go.Eng.R
set_option maxRecDepth 100000
def X7 (c:List V) (t:V):V:=V.agg [(V.int .i64 (gi t 0)),(V.inl Zg (gl t 1)),(V.inl Zf (gl t 2)),(V.int .i64 (gi t 3)),(V.inl Za (gl t 4)),(V.inl Ze (gl t 5)),(V.inl Zi c)]
def B7 (b:V):V:=V.agg [(V.int .i64 (gi b 0)),(V.sl 1 Zg 0 none),(V.sl 2 Zf 0 none),(V.int .i64 (gi b 3)),(V.sl 3 Za 0 none),(V.sl 4 Ze 0 none),(V.sl 5 Zi 0 none)]
theorem mapC {α β:Type} (c:Bool) (a b:Option α) (f:α→β):Option.map f (bif c then a else b)=bif c then Option.map f a else Option.map f b:=by cases c <;> rfl
theorem mapB {α β γ:Type} (a:Option α) (g:α→Option β) (f:β→γ):Option.map f (Option.bind a g)=Option.bind a fun x=>Option.map f (g x):=by cases a <;> rfl
theorem Zk8 {α β γ:Type} (a:Option α) (f:α→β) (g:β→Option γ):Option.bind (Option.map f a) g=Option.bind a fun x=>g (f x):=by cases a <;> rfl
theorem Zk9:∀(n:Nat) (b:V) (r1 r2 r3 r4 r5:List V),
  ZaD n (B7 b) r1 r2 r3 r4 r5=(Z3 n b r1 r2 r3 r4).map fun q=>(B7 q.1,q.2.1,q.2.2.1,q.2.2.2.1,q.2.2.2.2,r5)
 | 0,b,r1,r2,r3,r4,r5=>rfl
 | n+1,b,r1,r2,r3,r4,r5=>by
  rw[ZaD,Z3]
  simp only[mapC,mapB,Option.map_some,Option.map_none,←Zk9 n]
  rfl
theorem ZoJ (s:V) (k:Int):ZbN s k=(Zbv (Zd s) k).map (X7 (gl s 6)):=by
 unfold ZbN Zbv
 simp only[mapC,mapB,Option.map_some,Option.map_none]
 have h:=fun m r=>Zk9 m (V.agg [(V.int .i64 (gi s 0)),(V.sl 1 Zg 0 none),(V.sl 2 Zf 0 none),(V.int .i64 (gi s 3)),(V.sl 3 Za 0 none),(V.sl 4 Ze 0 none)]) r ((gl s 2)++[(V.agg [(V.inl Zc (gl (rd (gl s 1) (0+k.toNat)) 0)),(V.int .i64 (gi s 0))])]) (gl s 4) (gl s 5) (gl s 6)
 have h:∀m r,ZaD m (V.agg [(V.int .i64 (gi s 0)),(V.sl 1 Zg 0 none),(V.sl 2 Zf 0 none),(V.int .i64 (gi s 3)),(V.sl 3 Za 0 none),(V.sl 4 Ze 0 none),(V.sl 5 Zi 0 none)]) r ((gl s 2)++[(V.agg [(V.inl Zc (gl (rd (gl s 1) (0+k.toNat)) 0)),(V.int .i64 (gi s 0))])]) (gl s 4) (gl s 5) (gl s 6)=_:=h
 simp only[h,Zk8]
 rfl
theorem put7 (s:V) (key val:List V):ZX s key val=(ZU (Zd s) key val).map fun q=>(q.1,X7 (gl s 6) q.2):=by
 unfold ZX ZU
 simp only[mapC,mapB,Option.map_some,Option.map_none]
 rfl
theorem ZnC (id:Int) (rem:Bool):∀(n:Nat) (k:Int) (b:V) (r1 r2 r3 r4 r5:List V),
  Zam n id rem k (B7 b) r1 r2 r3 r4 r5=(Z7 n id rem k b r1 r2 r3 r4).map fun q=>(B7 q.1,q.2.1,q.2.2.1,q.2.2.2.1,q.2.2.2.2,r5)
 | 0,k,b,r1,r2,r3,r4,r5=>rfl
 | n+1,k,b,r1,r2,r3,r4,r5=>by
  rw[Zam,Z7]
  simp only[mapC,mapB,Option.map_some,Option.map_none,←ZnC id rem n,ZoJ,Zk8]
  rfl
theorem shut7 (s:V) (id:Int):Zc2 s id=(ZbM (Zd s) id).map fun q=>(q.1,X7 (gl s 6) q.2):=by
 unfold Zc2 ZbM
 simp only[mapC,mapB,Option.map_some,Option.map_none]
 have h:∀m i r k r1 r2 r3 r4,Zam m i r k (V.agg [(V.int .i64 (gi s 0)),(V.sl 1 Zg 0 none),(V.sl 2 Zf 0 none),(V.int .i64 (gi s 3)),(V.sl 3 Za 0 none),(V.sl 4 Ze 0 none),(V.sl 5 Zi 0 none)]) r1 r2 r3 r4 (gl s 6)=_:=fun m i r k r1 r2 r3 r4=>ZnC i r m k (V.agg [(V.int .i64 (gi s 0)),(V.sl 1 Zg 0 none),(V.sl 2 Zf 0 none),(V.int .i64 (gi s 3)),(V.sl 3 Za 0 none),(V.sl 4 Ze 0 none)]) r1 r2 r3 r4 (gl s 6)
 simp only[h,Zk8]
 rfl
theorem do7' (s o:V):ZbD s o=(Zbn (Zd s) o).map fun q=>(q.1,X7 (gl s 6) q.2):=by
 unfold ZbD Zbn
 simp only[mapC,mapB,Option.map_some,Option.map_none,put7,ZoJ,shut7,Zk8]
 rfl
theorem apply7' (s c:V):ZbW s c=(Za4 (Zd s) c).map fun q=>(q.1,X7 (gl s 6) q.2):=by
 unfold ZbW Za4
 simp only[mapC,mapB,Option.map_some,Option.map_none,do7',Zk8]
 rfl
end Go.Eng.R
open Go Go.Eng
namespace Go.Eng.R
set_option maxRecDepth 100000
def SD.b7 (s:SD) (a b c d e:Nat):V:=V.agg [(V.int .i64 s.idx),(V.sl a Zg 0 none),(V.sl b Zf 0 none),(V.int .i64 s.lost),(V.sl c Za 0 none),(V.sl d Ze 0 none),(V.sl e Zi 0 none)]
def sl7 (b:V) (a c d e f:Nat):V:=V.agg [(V.int .i64 (gi b 0)),(V.sl a Zg 0 none),(V.sl c Zf 0 none),(V.int .i64 (gi b 3)),(V.sl d Za 0 none),(V.sl e Ze 0 none),(V.sl f Zi 0 none)]
def sl6 (b:V) (a c d e:Nat):V:=V.agg [(V.int .i64 (gi b 0)),(V.sl a Zg 0 none),(V.sl c Zf 0 none),(V.int .i64 (gi b 3)),(V.sl d Za 0 none),(V.sl e Ze 0 none)]
theorem Zlw {c:V} (hw:Zce c) (h:Zbw c=true):ZcI (Zl c)=some (Zl c):=by
 obtain⟨l1,l2,-,-⟩:=CmdV.lens hw h
 have e1:=Zck l1
 have e2:=Zck l2
 have h3:Zfr (V.agg [(V.int .i64 (gi c 2)),(V.inl Zc (gl c 3)),(V.inl Zc (gl c 4)),(V.int .i64 (gi c 5))])=some (V.agg [(V.int .i64 (gi c 2)),(V.inl Zc (gl c 3)),(V.inl Zc (gl c 4)),(V.int .i64 (gi c 5))]):=by
  unfold Zfr
  refine Eq.trans (congrArg (fun o=>Option.bind o _) (show _=_ from e1)) ?_
  simp only[Option.bind_some]
  refine Eq.trans (congrArg (fun o=>Option.bind o _) (show _=_ from e2)) ?_
  rfl
 unfold ZcI
 refine Eq.trans (congrArg (fun o=>Option.bind o _) (show _=_ from h3)) ?_
 rfl
theorem apply7 {s:SD} (h:VS 0 s) (hi:s.idx<1000000) {c:V} (hc:Zce c) (hcb:Zbw c=true) (C:List V):ZbW (X7 C s.v) (Zl c)=some (repV (s.apply c).1,X7 C (s.apply c).2.v):=by
 rw[apply7']
 exact congrArg (Option.map fun q:V×V=>(q.1,X7 C q.2)) (ZiK h hi hc hcb)
def P7 (l:List V) (i k:Nat):SD:=runS SD.zero ((l.take (min i k)).map cmF)
def C7 (l:List V) (i k:Nat):List V:=((l.take i).drop k).map cmF
theorem C7_len {l:List V} {i k:Nat} (hi:i≤l.length):(C7 l i k).length=i-k:=by
 unfold C7;rw[List.length_map,List.length_drop,List.length_take];omega
theorem Zp6 {l:List V} (hl:∀f∈l,Zce (cmF f)) (hn:l.length≤400) {k:Nat} (hk:k≤l.length) (b0:V):
  (fun o=>(∃t,o=some (0,false,(V.agg [(V.int .i64 0),(V.nil Zg),(V.nil Zf),(V.int .i64 0),(V.nil Za),(V.nil Ze),(V.nil Zi)]),t))∨
   (okN l cmF=l.length∧∃b0' r2 r3 r4 r5 r6,o=some (1,false,b0',(P7 l l.length k).b7 7 8 9 10 11,r2,r3,r4,r5,r6,(P7 l l.length k).rows,(P7 l l.length k).tombs,(P7 l l.length k).sess,(P7 l l.length k).lasts,C7 l l.length k)))
  (Zac (l.length+1) (k:Int) l ((l.length:Nat):Int) 0 b0 (SD.zero.b7 7 8 9 10 11) [] [] [] [] [] SD.zero.rows SD.zero.tombs SD.zero.sess SD.zero.lasts []):=by
 have hle:=ZiL l cmF
 refine Zca (σ:=V×SD×List V) (F:=fun m q i=>Zac m (k:Int) l ((l.length:Nat):Int) i q.1 (q.2.1.b7 7 8 9 10 11) [] [] [] [] [] q.2.1.rows q.2.1.tombs q.2.1.sess q.2.1.lasts q.2.2) (n:=l.length)
  (fun i q=>i≤okN l cmF∧q.2.1=P7 l i k∧q.2.2=C7 l i k)
  (fun o=>(∃t,o=some (0,false,(V.agg [(V.int .i64 0),(V.nil Zg),(V.nil Zf),(V.int .i64 0),(V.nil Za),(V.nil Ze),(V.nil Zi)]),t))∨
   (okN l cmF=l.length∧∃b0' r2 r3 r4 r5 r6,o=some (1,false,b0',(P7 l l.length k).b7 7 8 9 10 11,r2,r3,r4,r5,r6,(P7 l l.length k).rows,(P7 l l.length k).tombs,(P7 l l.length k).sess,(P7 l l.length k).lasts,C7 l l.length k))) ?_ ?_ (s:=(b0,SD.zero,[])) ⟨Nat.zero_le _,?_,?_⟩
 ·rintro m i ⟨b,s,C⟩ hi ⟨h1,h2,h3⟩
  have h2:s=P7 l i k:=h2
  have h3:C=C7 l i k:=h3
  have hw:=hl _ (Zx hi)
  have hce:Zbd (cmF (rd l i))=some (Zbw (cmF (rd l i))):=ZcT hw
  by_cases hlt:i<okN l cmF
  ·have hok:=Zk7 hlt
   by_cases hik:i<k
   ·obtain⟨g1,g2,g3⟩:=ZhV hl hn (i:=i) (by omega)
    have e5:min i k=i:=by omega
    have h2':s=runS SD.zero ((l.take i).map cmF):=by rw[h2,P7,e5]
    rw[←h2'] at g1 g2 g3
    have hap:=apply7 g1 (show s.idx<1000000 by omega) hw hok C
    refine .inl ⟨(sl7 b 2 3 4 5 6,(s.apply (cmF (rd l i))).2,C),?_,by omega,?_,?_⟩
    ·show Zac (m+1) (k:Int) l ((l.length:Nat):Int) (i:Int) b (s.b7 7 8 9 10 11) [] [] [] [] [] s.rows s.tombs s.sess s.lasts C=_
     rw[Zac,Zaj hi,Zq hi,Int.toNat_natCast]
     simp only[cond_true]
     refine Eq.trans (congrArg (fun o=>Option.bind o _) (show _=_ from hce)) ?_
     rw[hok,Zaj hik]
     simp only[Option.bind_some,Bool.not_true,cond_false,cond_true]
     refine Eq.trans (congrArg (fun o=>Option.bind o _) (show _=_ from hap)) ?_
     simp only[Option.bind_some]
     rw[Zah hi (by omega)]
     rfl
    ·show(s.apply (cmF (rd l i))).2=_
     rw[P7,show min (i+1) k=i+1 by omega,ZfT hi,ZgL,←h2']
    ·show C=_
     rw[h3,C7,C7,List.drop_eq_nil_of_le (by rw[List.length_take];omega),List.drop_eq_nil_of_le (by rw[List.length_take];omega)]
   ·have hCl:C.length≤i:=by rw[h3,C7_len (by omega)];omega
    have hown:=Zlw (c:=cmF (rd l i)) hw hok
    refine .inl ⟨(sl7 b 2 3 4 5 6,s,C++[cmF (rd l i)]),?_,by omega,?_,?_⟩
    ·show Zac (m+1) (k:Int) l ((l.length:Nat):Int) (i:Int) b (s.b7 7 8 9 10 11) [] [] [] [] [] s.rows s.tombs s.sess s.lasts C=_
     rw[Zac,Zaj hi,Zq hi,Int.toNat_natCast]
     simp only[cond_true]
     refine Eq.trans (congrArg (fun o=>Option.bind o _) (show _=_ from hce)) ?_
     rw[hok,decide_eq_false (show ¬(i:Int)<(k:Int) by omega)]
     simp only[Option.bind_some,Bool.not_true,cond_false]
     refine Eq.trans (congrArg (fun o=>Option.bind o _) (show _=_ from hown)) ?_
     simp only[Option.bind_some]
     rw[Z4 (by omega) (by omega),Zah hi (by omega)]
     simp only[cond_true]
     rfl
    ·show s=_
     rw[h2,P7,P7,show min (i+1) k=k by omega,show min i k=k by omega]
    ·show C++[cmF (rd l i)]=_
     rw[h3,C7,C7,Zf6 hi,List.drop_append_of_le_length (by rw[List.length_take];omega),List.map_append];rfl
  ·have e:i=okN l cmF:=by omega
   have hno:Zbw (cmF (rd l i))=false:=by rw[e];exact ZoI (by omega)
   refine .inr (.inl ⟨(sl7 (s.b7 7 8 9 10 11) 2 3 4 5 6,s.rows,s.tombs,s.sess,s.lasts,C,[],[],[],[],[]),?_⟩)
   show Zac (m+1) (k:Int) l ((l.length:Nat):Int) (i:Int) b (s.b7 7 8 9 10 11) [] [] [] [] [] s.rows s.tombs s.sess s.lasts C=_
   rw[Zac,Zaj hi,Zq hi,Int.toNat_natCast]
   simp only[cond_true]
   refine Eq.trans (congrArg (fun o=>Option.bind o _) (show _=_ from hce)) ?_
   rw[hno]
   rfl
 ·rintro m ⟨b,s,C⟩ ⟨h1,h2,h3⟩
  have h2:s=P7 l l.length k:=h2
  have h3:C=C7 l l.length k:=h3
  have e:okN l cmF=l.length:=by omega
  refine .inr ⟨e,sl7 b 2 3 4 5 6,[],[],[],[],[],?_⟩
  show Zac (m+1) (k:Int) l ((l.length:Nat):Int) ((l.length:Nat):Int) b (s.b7 7 8 9 10 11) [] [] [] [] [] s.rows s.tombs s.sess s.lasts C=_
  rw[Zac,Zab,←h2,←h3]
  rfl
 ·show SD.zero=_
  rw[P7,show min 0 k=0 by omega];rfl
 ·show([]:List V)=_
  rw[C7,List.take_zero,List.drop_nil];rfl
theorem Zp7 {l:List V} (hl:∀f∈l,Zce (cmF f)) (hn:l.length≤400) (k:Int):
  (∃x,Zeq l k=some (x,false)∧gl x 6=[]∧gi x 0=0)∨
  (∃n:Nat,k=(n:Int)∧n≤l.length∧okN l cmF=l.length∧Zeq l k=some (X7 (C7 l l.length n) (P7 l l.length n).v,true)):=by
 unfold Zeq ZL
 rw[decide_eq_false (show ¬(400:Int)<((l.length:Nat):Int) by omega),cond_false,Za0]
 by_cases h0:0≤k∧k≤((l.length:Nat):Int)
 ·obtain⟨n,rfl⟩:=Int.eq_ofNat_of_zero_le h0.1
  rw[decide_eq_true h0.1,decide_eq_true h0.2]
  simp only[cond_true,Bool.not_true,cond_false]
  rcases Zp6 hl hn (k:=n) (by omega) (V.agg [(V.int .i64 0),(V.sl 2 Zg 0 none),(V.sl 3 Zf 0 none),(V.int .i64 0),(V.sl 4 Za 0 none),(V.sl 5 Ze 0 none),(V.sl 6 Zi 0 none)]) with⟨t,e⟩ | ⟨hok,b0',r2,r3,r4,r5,r6,e⟩
  ·left
   refine⟨_,Eq.trans (congrArg (fun o=>Option.bind o _) (show _=_ from e)) rfl,rfl,rfl⟩
  ·right
   refine⟨n,rfl,by omega,hok,?_⟩
   refine Eq.trans (congrArg (fun o=>Option.bind o _) (show _=_ from e)) ?_
   rfl
 ·left
  by_cases h1:0≤k
  ·rw[decide_eq_true h1,decide_eq_false (show ¬k≤((l.length:Nat):Int) from fun h=>h0 ⟨h1,h⟩)]
   exact⟨_,rfl,rfl,rfl⟩
  ·rw[decide_eq_false h1]
   exact⟨_,rfl,rfl,rfl⟩
def OkC (C:List V):Prop:=∀c∈C,Zce c∧Zbw c=true∧Zl c=c
theorem OkC.V {C:List V} (h:OkC C):∀c∈C,CmdV c:=fun c hc=>Znx (h c hc).1 (h c hc).2.1
theorem ZnD {C:List V} (h:OkC C) (hC:C.length≤1000):ZbV C=some false:=by
 have e:ZZ (C.length+1) C ((C.length:Nat):Int) 0=some (1,0):=by
  refine ZfB (F:=fun m i=>ZZ m C ((C.length:Nat):Int) i) ?_ ?_
  ·intro m i hi
   obtain⟨hw,hb,-⟩:=h _ (Zx hi)
   have hce:Zbd (Zl (Zl (rd C i)))=some (Zbw (rd C i)):=ZcT hw
   show ZZ (m+1) C ((C.length:Nat):Int) (i:Int)=_
   rw[ZZ,Zaj hi,Zq hi,Int.toNat_natCast,ZfN,hce,hb,Zah hi (by omega)]
   rfl
  ·intro m
   show ZZ (m+1) C ((C.length:Nat):Int) ((C.length:Nat):Int)=_
   rw[ZZ,Zab];rfl
 unfold ZbV ZdG
 rw[Za0,e];rfl
theorem ZgM {s:SD} (h:VS 0 s) {C:List V} (hC:OkC C) (hl:C.length≤400) (hi:s.idx+(C.length:Int)≤1000000):Zb8 (X7 C s.v)=some true:=by
 have hso:Zdp (Zd (X7 C s.v))=some true:=(ZgJ h.W).trans (congrArg some h.B)
 have i0:=h.i0
 unfold Zb8
 rw[hso]
 simp only[Option.bind_some,cond_true]
 rw[show gl (X7 C s.v) 6=C from rfl,show gi (X7 C s.v) 0=s.idx from rfl,Zax (n:=1000000-s.idx) (by omega) (by omega),decide_eq_true (show(C.length:Int)≤mnI 400 (1000000-s.idx) by unfold mnI;split <;> omega),ZnD hC (by omega)]
 rfl
theorem run_at {s:SD} (h:VS 0 s) (hN:Norm s) {C:List V} (hC:OkC C) (hi:s.idx+(C.length:Int)≤1000000) {i:Nat} (hl:i≤C.length):VS 0 (runS s (C.take i))∧Norm (runS s (C.take i))∧(runS s (C.take i)).idx=s.idx+(i:Int):=by
 have e:=List.length_take (i:=i) (l:=C)
 have h1:=ZjT (C.take i) h hN (fun c hc=>hC.V c (List.mem_of_mem_take hc)) (by omega)
 rw[e,show min i C.length=i by omega] at h1
 exact h1
theorem Zph {s:SD} (h:VS 0 s) (hN:Norm s) {C:List V} (hC:OkC C) (hi:s.idx+(C.length:Int)≤1000000) (b0:V):
  ∃b0',ZaV (C.length+1) C ((C.length:Nat):Int) 0 b0 (s.b 6 7 8 9) [] [] [] [] s.rows s.tombs s.sess s.lasts=some (b0',(runS s C).b 6 7 8 9,[],[],[],[],(runS s C).rows,(runS s C).tombs,(runS s C).sess,(runS s C).lasts):=by
 have i0:=h.i0
 refine Zca (σ:=V×SD) (F:=fun m q i=>ZaV m C ((C.length:Nat):Int) i q.1 (q.2.b 6 7 8 9) [] [] [] [] q.2.rows q.2.tombs q.2.sess q.2.lasts) (n:=C.length)
  (fun i q=>q.2=runS s (C.take i)) (fun o=>∃b0',o=some (b0',(runS s C).b 6 7 8 9,[],[],[],[],(runS s C).rows,(runS s C).tombs,(runS s C).sess,(runS s C).lasts)) ?_ ?_ (s:=(b0,s)) rfl
 ·rintro m i ⟨b,t⟩ hlt h2
  have h2:t=runS s (C.take i):=h2
  obtain⟨g1,g2,g3⟩:=run_at h hN hC hi (i:=i) (by omega)
  rw[←h2] at g1 g2 g3
  obtain⟨hw,hb,-⟩:=hC _ (Zx hlt)
  have hap:=ZiK g1 (by omega) hw hb
  refine .inl ⟨(sl6 b 2 3 4 5,(t.apply (rd C i)).2),?_,?_⟩
  ·show ZaV (m+1) C ((C.length:Nat):Int) (i:Int) b (t.b 6 7 8 9) [] [] [] [] t.rows t.tombs t.sess t.lasts=_
   rw[ZaV,Zaj hlt,Zq hlt,Int.toNat_natCast]
   simp only[cond_true]
   refine Eq.trans (congrArg (fun o=>Option.bind o _) (show _=_ from hap)) ?_
   simp only[Option.bind_some]
   rw[Zah hlt (by omega)]
   rfl
  ·show(t.apply (rd C i)).2=_
   rw[Zf6 hlt,ZgL,←h2]
 ·rintro m ⟨b,t⟩ h2
  have h2:t=runS s (C.take C.length):=h2
  rw[List.take_length] at h2
  refine⟨sl6 b 2 3 4 5,?_⟩
  show ZaV (m+1) C ((C.length:Nat):Int) ((C.length:Nat):Int) b (t.b 6 7 8 9) [] [] [] [] t.rows t.tombs t.sess t.lasts=_
  rw[ZaV,Zab,←h2]
  rfl
theorem Zla {s:SD} (h:VS 0 s) (hN:Norm s) {C:List V} (hC:OkC C) (hl:C.length≤400) (hi:s.idx+(C.length:Int)≤1000000):Zd9 (X7 C s.v)=some ((runS s C).v,true):=by
 have hso:Zb8 (Zp (X7 C s.v))=some true:=ZgM (s:=s) (C:=C) h hC hl hi
 have how:Za8 (Zd (X7 C s.v))=some s.v:=own_N (s:=s) h hN
 obtain⟨b0',e⟩:=Zph h hN hC hi (V.agg [(V.int .i64 0),(V.sl 2 Zg 0 none),(V.sl 3 Zf 0 none),(V.int .i64 0),(V.sl 4 Za 0 none),(V.sl 5 Ze 0 none)])
 unfold Zd9
 rw[hso]
 simp only[Option.bind_some,Bool.not_true,cond_false]
 rw[how,show gl (X7 C s.v) 6=C from rfl,Za0]
 simp only[Option.bind_some]
 refine Eq.trans (congrArg (fun o=>Option.bind o _) (show _=_ from e)) ?_
 rfl
theorem Zpi {t:V} {s:SD} {C:List V} (hC:OkC C) (hl:C.length≤400) (b0 b1 b2:V):
  (fun o=>∃b0' b2',gi b0' 0=gi b0 0∧o=some (b0',Zl b1,b2',s.b7 9 10 11 12 13,[],[],[],[],[],s.rows,s.tombs,s.sess,s.lasts,C))
  (ZaW (C.length+1) C ((C.length:Nat):Int) 0 b0 b1 b2 (s.b7 9 10 11 12 13) [] [] [] [] [] s.rows s.tombs s.sess s.lasts []):=by
 refine Zca (σ:=V×V×V×List V) (F:=fun m q i=>ZaW m C ((C.length:Nat):Int) i q.1 q.2.1 q.2.2.1 (s.b7 9 10 11 12 13) [] [] [] [] [] s.rows s.tombs s.sess s.lasts q.2.2.2) (n:=C.length)
  (fun i q=>(gi q.1 0=gi b0 0∧Zl q.2.1=Zl b1)∧q.2.2.2=C.take i)
  (fun o=>∃b0' b2',gi b0' 0=gi b0 0∧o=some (b0',Zl b1,b2',s.b7 9 10 11 12 13,[],[],[],[],[],s.rows,s.tombs,s.sess,s.lasts,C)) ?_ ?_ (s:=(b0,b1,b2,[])) ⟨⟨rfl,rfl⟩,rfl⟩
 ·rintro m i ⟨a0,a1,a2,D⟩ hlt ⟨⟨h0,h1⟩,h2⟩
  have h0:gi a0 0=gi b0 0:=h0
  have h2:D=C.take i:=h2
  have h1:Zl a1=Zl b1:=h1
  obtain⟨hw,hb,hn⟩:=hC _ (Zx hlt)
  have how:=Zlw hw hb
  have hD:D.length=i:=by rw[h2,List.length_take];omega
  refine .inl ⟨(Zp a0,Zl a1,sl7 a2 4 5 6 7 8,D++[rd C i]),?_,⟨h0,h1⟩,?_⟩
  ·show ZaW (m+1) C ((C.length:Nat):Int) (i:Int) a0 a1 a2 (s.b7 9 10 11 12 13) [] [] [] [] [] s.rows s.tombs s.sess s.lasts D=_
   rw[ZaW,Zaj hlt,Zq hlt,Int.toNat_natCast,how,hD]
   simp only[cond_true,Option.bind_some]
   rw[Z4 (by omega) (by omega),Zah hlt (by omega),show Zl (Zl (rd C i))=Zl (rd C i) from rfl,hn]
   rfl
  ·show D++[rd C i]=_
   rw[Zf6 hlt,←h2]
 ·rintro m ⟨a0,a1,a2,D⟩ ⟨⟨h0,h1⟩,h2⟩
  have h0:gi a0 0=gi b0 0:=h0
  have h2:D=C.take C.length:=h2
  have h1:Zl a1=Zl b1:=h1
  rw[List.take_length] at h2
  refine⟨Zp a0,sl7 a2 4 5 6 7 8,h0,?_⟩
  show ZaW (m+1) C ((C.length:Nat):Int) ((C.length:Nat):Int) a0 a1 a2 (s.b7 9 10 11 12 13) [] [] [] [] [] s.rows s.tombs s.sess s.lasts D=_
  rw[ZaW,Zab,h2,h1]
  rfl
theorem Zpj {s:SD} (h:VS 0 s) {C:List V} (hC:OkC C) (hl:C.length≤400) (hi:s.idx+(C.length:Int)≤1000000) {c:V} (hw:Zce c) (hb:Zbw c=false):∃x,Zds (X7 C s.v) (Zl c)=some (x,false):=by
 have hso:Zb8 (Zp (X7 C s.v))=some true:=ZgM (s:=s) (C:=C) h hC hl hi
 have hce:Zbd (Zl (Zl c))=some (Zbw c):=ZcT (c:=c) hw
 unfold Zds
 rw[hso,hce,hb]
 exact⟨_,rfl⟩
theorem Zpk {s:SD} (h:VS 0 s) (hN:Norm s) {C:List V} (hC:OkC C) (hl:C.length<400) (hi:s.idx+(C.length:Int)<1000000) {c:V} (hw:Zce c) (hb:Zbw c=true):Zds (X7 C s.v) (Zl c)=some (X7 (C++[Zl c]) s.v,true):=by
 have hso:Zb8 (Zp (X7 C s.v))=some true:=ZgM (s:=s) (C:=C) h hC (by omega) (by omega)
 have hce:Zbd (Zl (Zl c))=some (Zbw c):=ZcT (c:=c) hw
 have how:Za8 (Zd (X7 C s.v))=some s.v:=own_N (s:=s) h hN
 have i0:=h.i0
 obtain⟨b0',b2',e0,e⟩:=Zpi (t:=c) (s:=s) hC (by omega) (Zp (X7 C s.v)) (Zl (Zl c)) (V.agg [(V.int .i64 0),(V.sl 4 Zg 0 none),(V.sl 5 Zf 0 none),(V.int .i64 0),(V.sl 6 Za 0 none),(V.sl 7 Ze 0 none),(V.sl 8 Zi 0 none)])
 have hown:ZcI (Zl (Zl (Zl (Zl c))))=some (Zl c):=Zlw (c:=c) hw hb
 unfold Zds
 rw[hso,hce,hb]
 simp only[Option.bind_some,Bool.not_true,cond_false]
 rw[how,show gl (X7 C s.v) 6=C from rfl,Za0]
 simp only[Option.bind_some]
 refine Eq.trans (congrArg (fun o=>Option.bind o _) (show _=_ from e)) ?_
 simp only[Option.bind_some]
 have e0:gi b0' 0=s.idx:=e0
 rw[e0,Zax (n:=1000000-s.idx) (by omega) (by omega),decide_eq_false (show ¬(C.length:Int)=mnI 400 (1000000-s.idx) by unfold mnI;split <;> omega),Z4 (by omega) (by omega)]
 simp only[cond_false,cond_true]
 refine Eq.trans (congrArg (fun o=>Option.bind o _) (show _=_ from hown)) ?_
 rfl
end Go.Eng.R
open Go Go.Eng
namespace Go.Eng.R
set_option maxRecDepth 100000
theorem ZnE {code:List V} (h:LW ZaB code):Ok (fun r:List V×Int=>r.1.length≤20∧∀f∈r.1,B_Cmd (cmF f)) (ZdZ code):=by
 unfold ZdZ
 refine Ok.bind (new_O h) ?_
 intro c0 h0
 refine Ok.bind (ZnB h) ?_
 intro l hl
 obtain⟨j,c1,e,-,-⟩:=Zlp h0 (l:=[(V.int .i64 0),(V.int .i64 1),(V.int .i64 ((l.length:Nat):Int)),(V.int .i64 (IntKind.i64.wrap (((l.length:Nat):Int).tdiv 2))),(V.int .i64 (IntKind.i64.wrap (((l.length:Nat):Int)+1))),(V.int .i64 (-1))]) (Nat.succ_pos _)
 rw[e]
 exact⟨_,rfl,hl⟩
theorem Zfw {n:Int} (hn:n≤20):∀(k i:Nat) (c b1 b2:V) (r3 r4 r5 r6 r7 r8 r9 r10 r11 r:List V),ZP c→r.length≤i→(i:Int)≤n→(n-(i:Int)).toNat<k→
  Ok (fun q=>ZP q.1) (ZbH k n (i:Int) (Zb c) b1 b2 r3 r4 r5 r6 r7 r8 r9 r10 r11 r)
 | 0,i,c,b1,b2,r3,r4,r5,r6,r7,r8,r9,r10,r11,r,hc,hl,hi,hk=>by omega
 | k+1,i,c,b1,b2,r3,r4,r5,r6,r7,r8,r9,r10,r11,r,hc,hl,hi,hk=>by
  rw[ZbH]
  by_cases hin:(i:Int)<n
  case neg=>rw[decide_eq_false hin];exact⟨_,rfl,hc⟩
  rw[decide_eq_true hin]
  simp only[cond_true]
  have ew:IntKind.i64.wrap ((i:Int)+1)=((i+1:Nat):Int):=by rw[Zax (by omega) (by omega)];omega
  refine Ok.bind2 (ZiI hc) ?_
  rintro x c1 ⟨h1,hx⟩
  refine Ok.bind (Q:=fun _=>True) ⟨_,ZfQ (c:=x) hx.W,trivial⟩ ?_
  rintro b -
  rw[ew]
  refine .ite (fun _=>?_) (fun _=>?_)
  ·refine .chk (Z4 (by omega) (by omega)) ?_
   exact Zfw hn k (i+1) c1 _ _ _ _ _ _ _ _ _ _ _ _ h1 (by rw[List.length_append,List.length_singleton];omega) (by omega) (by omega)
  ·refine Ok.bind (ZfF h1 15) ?_
   rintro⟨b2,c2⟩ h2
   have h2:ZP c2:=h2
   refine .ite (fun _=>?_) (fun _=>?_)
   ·refine .chk (Z4 (by omega) (by omega)) ?_
    exact Zfw hn k (i+1) c2 _ _ _ _ _ _ _ _ _ _ _ _ h2 (by rw[List.length_append,List.length_singleton];omega) (by omega) (by omega)
   ·exact Zfw hn k (i+1) c2 _ _ _ _ _ _ _ _ _ _ _ _ h2 (by omega) (by omega) (by omega)
theorem Zmi {code:List V} (h:LW ZaB code):Ok (fun r:V×V=>B_Cmd r.2∧Zl r.2=r.2) (ZdH code):=by
 unfold ZdH
 refine Ok.bind (new_O h) ?_
 intro c0 h0
 have h9:Ok (fun r:V×V=>ZP r.2) (Zft (Zb c0)):=by
  unfold Zft
  refine Ok.bind (bent_S h0) ?_
  rintro⟨st,c1⟩ ⟨h1,-⟩
  have h1:ZP c1:=h1
  refine Ok.bind (Zlq h1 6) ?_
  rintro⟨n,c2⟩ ⟨h2,n0,-,n2⟩
  have h2:ZP c2:=h2
  have n0:0≤n:=n0
  have n2:n<6∨n=0:=n2
  refine Ok.bind (Zfw (n:=n) (by omega) ((n-0).toNat+1) 0 c2 _ _ _ _ _ _ _ _ _ _ _ [] h2 (Nat.zero_le _) n0 (by omega)) ?_
  intro q hq
  exact⟨_,rfl,hq⟩
 refine Ok.bind h9 ?_
 rintro⟨sn,c1⟩ h1
 have h1:ZP c1:=h1
 refine Ok.bind2 (ZiI h1) ?_
 rintro x c2 ⟨h2,hx⟩
 exact⟨_,rfl,hx,rfl⟩
theorem okC_take {l:List V} (hl:∀f∈l,Zce (cmF f)) (hok:okN l cmF=l.length) (k:Nat):OkC ((l.drop k).map cmF):=fun c hc=>by
 obtain⟨f,hf,rfl⟩:=List.mem_map.1 hc
 obtain⟨j,hj,rfl⟩:=ZcK (List.mem_of_mem_drop hf)
 exact⟨hl _ (Zx hj),Zk7 (by omega),rfl⟩
theorem Zp8 {code:List V} (h:LW ZaB code):Zdt code=some true:=by
 unfold Zdt
 obtain⟨⟨l,k⟩,e,hl20,hlb⟩:=ZnE h
 have hl20:l.length≤20:=hl20
 have hl:∀f∈l,Zce (cmF f):=fun f hf=>(hlb f hf).W
 have hn:l.length≤400:=by omega
 rw[e]
 simp only[Option.bind_some]
 rcases Zp7 hl hn k with⟨x,e1,x1,x2⟩ | ⟨n,rfl,hnl,hok,e1⟩
 ·rw[e1]
  simp only[Option.bind_some,Bool.not_false,cond_true]
  rw[x1,x2];rfl
 rw[e1]
 have hC:OkC ((l.drop n).map cmF):=okC_take hl hok n
 have e2:C7 l l.length n=(l.drop n).map cmF:=by rw[C7,List.take_length]
 have e3:P7 l l.length n=runS SD.zero ((l.take n).map cmF):=by rw[P7,show min l.length n=n by omega]
 rw[e2,e3]
 obtain⟨g1,g2,g3⟩:=ZhV hl hn (i:=n) (by omega)
 have hS:runS (runS SD.zero ((l.take n).map cmF)) ((l.drop n).map cmF)=Zel l:=by
  rw[←ZjR,←List.map_append,List.take_append_drop,Zel,hok,List.take_length]
 have hCl:((l.drop n).map cmF).length=l.length-n:=by rw[List.length_map,List.length_drop]
 generalize runS SD.zero ((l.take n).map cmF)=s at *
 generalize (l.drop n).map cmF=C at *
 obtain⟨f1,f2,f3⟩:=ZhV hl hn (i:=okN l cmF) (Nat.le_refl _)
 have hst:runS SD.zero ((l.take (okN l cmF)).map cmF)=Zel l:=rfl
 rw[hst] at f1 f2 f3
 have hall:=Zla (s:=s) (C:=C) g1 g2 hC (by omega) (by omega)
 rw[hS] at hall
 simp only[Option.bind_some,Bool.not_true,cond_false]
 refine Eq.trans (congrArg (fun o=>Option.bind o _) (show _=_ from hall)) ?_
 simp only[Option.bind_some]
 rw[Zp5 hl hn]
 simp only[Option.bind_some,Bool.not_true,cond_false]
 refine Eq.trans (congrArg (fun o=>Option.bind o _) (show _=_ from ZgM (s:=s) (C:=C) g1 hC (by omega) (by omega))) ?_
 simp only[Option.bind_some,Bool.not_true,cond_false]
 refine Eq.trans (congrArg (fun o=>Option.bind o _) (show _=_ from Zhl f1)) ?_
 simp only[Option.bind_some,Bool.not_true,cond_false]
 rw[List.length_map,folR_len,hok,decide_eq_true (show((l.length:Nat):Int)=((l.length:Nat):Int) from rfl),decide_eq_true (show gi (X7 C s.v) 0=(n:Int) from g3)]
 simp only[Bool.not_true,cond_false]
 obtain⟨⟨sn,c⟩,e4,hc,hcn⟩:=Zmi h
 have hc:B_Cmd c:=hc
 have hcn:Zl c=c:=hcn
 have hw:=hc.W
 rw[e4]
 simp only[Option.bind_some]
 by_cases hb:Zbw c=true
 ·have hadd:=Zpk (s:=s) (C:=C) g1 g2 hC (by omega) (by omega) hw hb
  refine Eq.trans (congrArg (fun o=>Option.bind o _) (show _=_ from hadd)) ?_
  simp only[Option.bind_some,Bool.not_true,cond_false]
  have hC2:OkC (C++[Zl c]):=fun d hd=>by
   rcases List.mem_append.1 hd with hd | hd
   ·exact hC d hd
   ·rw[List.mem_singleton.1 hd,hcn];exact⟨hw,hb,hcn⟩
  have hall2:=Zla (s:=s) (C:=C++[Zl c]) g1 g2 hC2 (by rw[List.length_append,List.length_singleton];omega) (by rw[List.length_append,List.length_singleton];omega)
  rw[ZgL,hS] at hall2
  refine Eq.trans (congrArg (fun o=>Option.bind o _) (show _=_ from hall2)) ?_
  simp only[Option.bind_some]
  have hap:=Apply_N f1 f2 (by omega) hw hb
  refine Eq.trans (congrArg (fun o=>Option.bind o _) (show _=_ from hap)) ?_
  simp only[Option.bind_some]
  rw[hcn]
  obtain⟨a1,-,-,-⟩:=f1.apply (by omega) (Znx hw hb)
  refine Eq.trans (congrArg (fun o=>Option.bind o _) (show _=_ from Zhl a1)) ?_
  rfl
 ·have hb:Zbw c=false:=by simpa using hb
  obtain⟨x,hno⟩:=Zpj (s:=s) (C:=C) g1 hC (by omega) (by omega) hw hb
  refine Eq.trans (congrArg (fun o=>Option.bind o _) (show _=_ from hno)) ?_
  simp only[Option.bind_some,Bool.not_false,cond_true]
  have hce:ZdD (Zl c)=some (Zbw c):=ZfQ (c:=c) hw
  rw[hce,hb];rfl
end Go.Eng.R
open Go Go.Eng
namespace Go.Eng.R
theorem wt_byte {x:V} (h:WtT tab Zc x):ZaB x:=wt_u8 (h.cell 0 rfl)
def readable:List TypeId:=[5,31]
end Go.Eng.R
