/- An own evaluator of the program's form, proved sound, and what it says of this law's functions: part 3. -/
import Derived.Test.YtpcbeplajmkgpaaGreatE2
import Derived.Test.YtpcbeplajmkgpaaGreatChecked
import Derived.Test.YtpcbeplajmkgpaaGreatProg
set_option linter.unusedVariables false
namespace Go.Eng
def nlt (a b:List V):Bool:=ZcV (a.map ZaS) (b.map ZaS)
def neq (a b:List V):Bool:=ZbF (a.map ZaS) (b.map ZaS)
def ZbT (a:List V):List Int:=a.map fun x=>((x.I.toNat % 256:Nat):Int)
theorem ZcD:∀a b:List V,neq a b=decide (ZbT a=ZbT b)
 | [],[]=>rfl
 | [],_ :: _=>rfl
 | _ :: _,[]=>rfl
 | x :: a,y :: b=>by
  have ih:=ZcD a b
  simp only[neq,ZbT,List.map_cons,ZbF,ZaS,V.I,List.cons.injEq] at ih ⊢
  rw[ih]
  by_cases h:((x.I.toNat % 256:Nat):Int)=((y.I.toNat % 256:Nat):Int) <;> simp
def ltC:List Int→List Int→Bool
 | _,[]=>false
 | [],_ :: _=>true
 | a :: x,b :: y=>decide (a<b)||(decide (a=b)&&ltC x y)
theorem Zdm:∀a b:List V,nlt a b=ltC (ZbT a) (ZbT b)
 | [],[]=>rfl
 | [],_ :: _=>rfl
 | _ :: _,[]=>rfl
 | x :: a,y :: b=>by
  have ih:=Zdm a b
  show(decide ((ZaS x).I<(ZaS y).I)||(decide ((ZaS x).I=(ZaS y).I)&&nlt a b))=ltC (ZbT (x :: a)) (ZbT (y :: b))
  rw[ih]
  rfl
theorem Zoz:∀a,ltC a a=false
 | []=>rfl
 | x :: a=>by simp[ltC,Zoz a]
theorem ZlO:∀a b c,ltC a b=true→ltC b c=true→ltC a c=true
 | _,[],_,h,_=>by cases ‹List Int› <;> simp[ltC] at h
 | _,_ :: _,[],_,h=>by simp[ltC] at h
 | [],_ :: _,_ :: _,_,_=>rfl
 | x :: a,y :: b,z :: c,h1,h2=>by
  simp only[ltC,Bool.or_eq_true,Bool.and_eq_true,decide_eq_true_eq] at h1 h2 ⊢
  rcases h1 with h1 | ⟨rfl,h1⟩ <;> rcases h2 with h2 | ⟨rfl,h2⟩
  ·exact .inl (by omega)
  ·exact .inl h1
  ·exact .inl h2
  ·exact .inr ⟨rfl,ZlO a b c h1 h2⟩
theorem ZoA:∀a b,ltC a b=false→ltC b a=false→a=b
 | [],[],_,_=>rfl
 | [],_ :: _,h,_=>by simp[ltC] at h
 | _ :: _,[],_,h=>by simp[ltC] at h
 | x :: a,y :: b,h1,h2=>by
  simp only[ltC,Bool.or_eq_false_iff,decide_eq_false_iff_not,Bool.and_eq_false_iff] at h1 h2
  obtain rfl:x=y:=by omega
  rcases h1.2 with h | h
  ·exact absurd rfl h
  ·rcases h2.2 with h' | h'
   ·exact absurd rfl h'
   ·rw[ZoA a b h h']
theorem ZiA {a b c:List V} (h1:nlt a b=true) (h2:nlt b c=true):nlt a c=true:=by rw[Zdm] at *;exact ZlO _ _ _ h1 h2
theorem Zi0 {a b:List V} (h:nlt a b=true):neq a b=false:=by
 rw[Zdm] at h
 rw[ZcD,decide_eq_false_iff_not]
 intro e
 rw[e,Zoz] at h;cases h
theorem Zn5 {a b c:List V} (h:neq b c=true):nlt a b=nlt a c:=by
 rw[ZcD,decide_eq_true_eq] at h
 rw[Zdm,Zdm,h]
theorem nlt_tri {a b:List V} (h1:nlt a b=false) (h2:neq a b=false):nlt b a=true:=by
 cases h:nlt b a with
 | true=>rfl
 | false=>
  rw[Zdm] at h h1
  rw[ZcD,decide_eq_false_iff_not] at h2
  exact absurd (ZoA _ _ h1 h) h2
theorem cmpV_neg (a b:List V):decide (Zgq a b<0)=nlt a b:=by
 show decide ((bif nlt a b then(-1:Int) else bif neq a b then 0 else 1)<0)=_
 cases nlt a b <;> cases neq a b <;> rfl
theorem Zn6 (a b:List V):decide ((0:Int)≤Zgq a b) = !nlt a b:=by
 show decide ((0:Int)≤(bif nlt a b then(-1:Int) else bif neq a b then 0 else 1))=_
 cases nlt a b <;> cases neq a b <;> rfl
theorem ZpN (a b:List V):decide (Zgq a b=0)=(!nlt a b&&neq a b):=by
 show decide ((bif nlt a b then(-1:Int) else bif neq a b then 0 else 1)=0)=_
 cases nlt a b <;> cases neq a b <;> rfl
theorem Zo6 (a b:List V):decide (Zgq a b=0)=neq a b:=by
 rw[ZpN]
 cases h:neq a b with
 | false=>simp
 | true=>
  cases h':nlt a b with
  | false=>rfl
  | true=>rw[Zi0 h'] at h;cases h
theorem wr_mid {i j:Nat} (h:i+j<9223372036854775808):IntKind.i64.wrap (ZeG .u64 (IntKind.u64.wrap (IntKind.i64.wrap ((i:Int)+(j:Int)))) 1)=(((i+j) / 2:Nat):Int):=by
 rw[Zax (n:=(i:Int)+(j:Int)) (by omega) (by omega)]
 have hu:IntKind.u64.wrap ((i:Int)+(j:Int))=(i:Int)+(j:Int):=by
  have:=IntWalk.u64_in ((i:Int)+(j:Int)) (by omega)
  exact this
 rw[hu]
 have:ZeG .u64 ((i:Int)+(j:Int)) 1=(((i+j) / 2:Nat):Int):=by
  unfold ZeG
  rw[show((2:Int) ^ (min (1:Int).toNat IntKind.u64.bits))=2 from by decide,Int.fdiv_eq_ediv_of_nonneg _ (by omega)]
  omega
 rw[this,Zax (by omega) (by omega)]
theorem Zi1 {ρ:Type} {F:Nat→Int→Int→ρ} {x:List V} {p:V→Bool} {n0:Nat} {out:Int→ρ} (hx:x.length<4611686018427387904) (hp:∀i,i<x.length→p (rd x i)=decide (i<n0))
  (h1:∀m (i j:Nat),i<j→j≤x.length→F (m+1) (i:Int) (j:Int)=bif p (rd x ((i+j) / 2)) then F m (((i+j) / 2+1:Nat):Int) (j:Int) else F m (i:Int) (((i+j) / 2:Nat):Int)) (h0:∀m (i:Nat),F (m+1) (i:Int) (i:Int)=out (i:Int)):
  ∀m (i j:Nat),i≤n0→n0≤j→j≤x.length→j-i<m→F m (i:Int) (j:Int)=out (n0:Int)
 | 0,i,j,_,_,_,h=>by omega
 | m+1,i,j,hi,hj,hl,hm=>by
  rcases Nat.lt_or_ge i j with h | h
  ·rw[h1 m i j h hl,hp _ (by omega)]
   by_cases hc:(i+j) / 2<n0
   ·rw[decide_eq_true hc,cond_true]
    exact Zi1 hx hp h1 h0 m _ j (by omega) hj hl (by omega)
   ·rw[decide_eq_false hc,cond_false]
    exact Zi1 hx hp h1 h0 m i _ hi (by omega) (by omega) (by omega)
  ·obtain rfl:i=j:=by omega
   obtain rfl:n0=i:=by omega
   exact h0 m n0
theorem ZiB {ρ:Type} {F:Nat→Int→ρ} {n:Nat} {q:Nat→Bool} {yes no:ρ}
  (h1:∀m (i:Nat),i<n→F (m+1) (i:Int)=bif q i then F m ((i+1:Nat):Int) else no) (h0:∀m,F (m+1) (n:Int)=yes):
  F (n+1) 0=bif (List.range n).all q then yes else no:=by
 refine Zca (F:=fun m (_:Unit) i=>F m i) (n:=n) (fun i _=>(List.range i).all q=true) (fun o=>o=bif (List.range n).all q then yes else no) ?_ ?_ (s:=()) (by simp)
 ·intro m i s hi hI
  rw[h1 m i hi]
  cases hp:q i with
  | true=>
   refine .inl ⟨(),rfl,?_⟩
   rw[List.range_succ,List.all_append,hI];simp[hp]
  | false=>
   refine .inr ?_
   have:(List.range n).all q=false:=by
    rw[List.all_eq_false]
    exact⟨i,List.mem_range.2 hi,by simp[hp]⟩
   rw[this];rfl
 ·intro m s hI
  show F (m+1) (n:Int)=_
  rw[hI];exact h0 m
def Zt (q:Nat→Bool):Nat→Nat→Option Nat
 | _,0=>none
 | i,k+1=>bif q i then some i else Zt q (i+1) k
theorem Zdw {ρ:Type} {F:Nat→Int→ρ} {n:Nat} {q:Nat→Bool} {no:ρ} {out:Int→ρ}
  (h1:∀m (i:Nat),i<n→F (m+1) (i:Int)=bif q i then out (i:Int) else F m ((i+1:Nat):Int)) (h0:∀m,F (m+1) (n:Int)=no):
  ∀m (i:Nat),i≤n→n-i<m→F m (i:Int)=match Zt q i (n-i) with | some j=>out (j:Int) | none=>no
 | 0,i,_,h=>by omega
 | m+1,i,hi,hm=>by
  rcases Nat.lt_or_ge i n with h | h
  ·rw[h1 m i h,show n-i=(n-(i+1))+1 from by omega,Zt]
   cases q i with
   | true=>rfl
   | false=>exact Zdw h1 h0 m (i+1) (by omega) (by omega)
  ·obtain rfl:i=n:=by omega
   rw[Nat.sub_self,Zt];exact h0 m
theorem firstI_none {q:Nat→Bool}:∀{k i:Nat},Zt q i k=none↔∀j,i≤j→j<i+k→q j=false
 | 0,i=>by simp[Zt];omega
 | k+1,i=>by
  rw[Zt]
  cases hq:q i with
  | true=>simp;exact⟨i,Nat.le_refl _,by omega,hq⟩
  | false=>
   rw[cond_false,firstI_none]
   constructor
   ·intro h j h1 h2
    rcases Nat.eq_or_lt_of_le h1 with rfl | h3
    ·exact hq
    ·exact h j h3 (by omega)
   ·exact fun h j h1 h2=>h j (by omega) (by omega)
theorem Z8 {q:Nat→Bool}:∀{k i j:Nat},Zt q i k=some j→i≤j∧j<i+k∧q j=true∧∀t,i≤t→t<j→q t=false
 | 0,i,j,h=>by simp[Zt] at h
 | k+1,i,j,h=>by
  rw[Zt] at h
  cases hq:q i with
  | true=>
   rw[hq,cond_true] at h
   cases h
   exact⟨Nat.le_refl _,by omega,hq,fun t h1 h2=>by omega⟩
  | false=>
   rw[hq,cond_false] at h
   obtain⟨a,b,c,d⟩:=Z8 h
   refine⟨by omega,by omega,c,fun t h1 h2=>?_⟩
   rcases Nat.eq_or_lt_of_le h1 with rfl | h3
   ·exact hq
   ·exact d t h3 h2
def lbN (nm:V→List V) (l:List V) (t:List V):Nat:=(l.takeWhile fun x=>nlt (nm x) t).length
def AscN (nm:V→List V) (l:List V):Prop:=∀i,i+1<l.length→nlt (nm (rd l i)) (nm (rd l (i+1)))=true
theorem AscN.lt {nm:V→List V} {l:List V} (h:AscN nm l):∀{j i:Nat},i<j→j<l.length→nlt (nm (rd l i)) (nm (rd l j))=true
 | 0,i,h1,_=>by omega
 | j+1,i,h1,h2=>by
  rcases Nat.eq_or_lt_of_le (Nat.le_of_lt_succ h1) with rfl | h3
  ·exact h i h2
  ·exact ZiA (h.lt h3 (by omega)) (h j h2)
theorem Zdg {l:List V} {i:Nat} (h:i<l.length):rd l i=l[i]:=by simp[rd,List.getD,h]
theorem Zhf {l:List V} {p:V→Bool}:(∀i,i<(l.takeWhile p).length→p (rd l i)=true)∧((l.takeWhile p).length<l.length→p (rd l (l.takeWhile p).length)=false)∧(l.takeWhile p).length≤l.length:=by
 induction l with
 | nil=>simp
 | cons x l ih=>
  obtain⟨h1,h2,h3⟩:=ih
  rw[List.takeWhile_cons]
  cases hp:p x with
  | false=>simp[rd,hp]
  | true=>
   simp only[if_true,List.length_cons]
   refine⟨fun i hi=>?_,fun hlt=>?_,by omega⟩
   ·cases i with
    | zero=>simpa [rd] using hp
    | succ i=>exact h1 i (by omega)
   ·exact h2 (by omega)
theorem Zhg (nm:V→List V) (l:List V) (t:List V):lbN nm l t≤l.length:=(Zhf (l:=l)).2.2
theorem Zgr {nm:V→List V} {l:List V} (h:AscN nm l) (t:List V):∀i,i<l.length→nlt (nm (rd l i)) t=decide (i<lbN nm l t):=by
 intro i hi
 obtain⟨h1,h2,h3⟩:=Zhf (l:=l) (p:=fun x=>nlt (nm x) t)
 by_cases hc:i<lbN nm l t
 ·rw[decide_eq_true hc];exact h1 i hc
 ·rw[decide_eq_false hc]
  have h2:=h2 (by unfold lbN at hc;omega)
  rcases Nat.eq_or_lt_of_le (Nat.le_of_not_lt hc) with e | hlt
  ·rw[←e];exact h2
  ·have hl:nlt (nm (rd l (lbN nm l t))) (nm (rd l i))=true:=h.lt hlt hi
   cases hh:nlt (nm (rd l i)) t with
   | false=>rfl
   | true=>have:=ZiA hl hh;rw[show nlt (nm (rd l (lbN nm l t))) t=false from h2] at this;cases this
def ZcM (nm:V→List V) (l:List V) (t:List V):Bool:=decide (lbN nm l t<l.length)&&neq (nm (rd l (lbN nm l t))) t
theorem ZmW {nm:V→List V} {l:List V} (h:AscN nm l) (t:List V):Zt (fun i=>neq (nm (rd l i)) t) 0 l.length=bif ZcM nm l t then some (lbN nm l t) else none:=by
 have hs:=Zgr h t
 have hle:=Zhg nm l t
 cases hf:Zt (fun i=>neq (nm (rd l i)) t) 0 l.length with
 | none=>
  rw[firstI_none] at hf
  have:ZcM nm l t=false:=by
   unfold ZcM
   by_cases hc:lbN nm l t<l.length
   ·rw[hf _ (by omega) (by omega)];simp
   ·simp[hc]
  rw[this];rfl
 | some j=>
  obtain⟨-,hj,hq,hb⟩:=Z8 hf
  have hj:j<l.length:=by omega
  have hnl:nlt (nm (rd l j)) t=false:=by
   cases hh:nlt (nm (rd l j)) t with
   | false=>rfl
   | true=>rw[Zi0 hh] at hq;cases hq
  rw[hs j hj,decide_eq_false_iff_not] at hnl
  have hjl:j=lbN nm l t:=by
   rcases Nat.eq_or_lt_of_le (Nat.le_of_not_lt hnl) with e | hlt
   ·exact e.symm
   ·have:=h.lt hlt hj
    rw[Zn5 hq,hs _ (by omega),decide_eq_true_eq] at this
    omega
  have:ZcM nm l t=true:=by
   unfold ZcM
   rw[←hjl];simp[hj,hq]
  rw[this,hjl];rfl
end Go.Eng
namespace Go.Eng
section
variable {P:Program} {tab:Tab}
theorem RowT.soft {w:World} {ok:Nat→Prop} {T:TypeId} {els:List V} {v:Value} {nest:List Nat} (h:RowT tab w ok T true els v nest):RowT tab w (fun g=>ok g∨g∈nest) T false els v []:=by
 obtain⟨ty,xs,ht,hr,hs,he⟩:=h
 rcases he with⟨-,F,rfl,he⟩ | ⟨ho,-⟩
 ·exact⟨ty,xs,ht,hr,hs, .inr ⟨rfl,rfl,fun i j hi hj=>(he i j hi hj).tree fun g hg=>.inr (mem_flatF.2 ⟨i,hi,j,hj,hg⟩)⟩⟩
 ·cases ho
theorem ZkT {w w':World} {ok:Nat→Prop} {args args':List V} {vals:List Value} {t n m n':List Nat} {r:V×List V} {val:Value}
  (h:Zkl tab w (fun g=>ok g∨g∈m) args vals t n r val w') (hn:∀g,g∈n∨g∈m→g∈n')
  (hO:∀(R:V→Value→List Nat→List Nat→Prop) ot on,OutL R (Zbs args vals) r.2 ot on→OutL R (Zbs args' vals) r.2 ot on):Zkl tab w ok args' vals t n' r val w':=by
 obtain⟨rt,rn,ot,on,h1,h2,h3,h4,h5,h6,h7⟩:=h
 have hk:∀g,(((ok g∨g∈m)∨g∈t++n∨w.heap.size≤g)∧g<w'.heap.size∧g∉ot++rt)→((ok g∨g∈t++n'∨w.heap.size≤g)∧g<w'.heap.size∧g∉ot++rt):=by
  rintro g ⟨a,b,c⟩
  refine⟨?_,b,c⟩
  rcases a with(a | a) | a | a
  ·exact .inl a
  ·exact .inr (.inl (List.mem_append_right _ (hn g (.inr a))))
  ·rcases List.mem_append.1 a with a | a
   ·exact .inr (.inl (List.mem_append_left _ a))
   ·exact .inr (.inl (List.mem_append_right _ (hn g (.inl a))))
  ·exact .inr (.inr a)
 refine⟨rt,rn,ot,on,h1.keep hk,hO _ _ _ (h2.mono fun y _ v t n hy=>hy.keep hk),h3,h4,fun g hg=>?_,h6,h7⟩
 rcases h5 g hg with a | a
 ·rcases List.mem_append.1 a with a | a
  ·exact .inl (List.mem_append_left _ a)
  ·exact .inl (List.mem_append_right _ (hn g (.inl a)))
 ·exact .inr a
theorem ZkU {R:V→Value→List Nat→List Nat→Prop} {a b a' b':V} {v u:Value} {ot on:List Nat} (h:OutL R [(a,v),(b,u)] [.dead, .dead] ot on):OutL R [(a',v),(b',u)] [.dead, .dead] ot on:=by
 cases h with | cons h1 h2 h3=>
 cases h3 with | cons h4 h5 h6=>
 cases h6
 exact .cons trivial h2 (.cons trivial h5 .nil)
theorem ZmX {f:FuncId} {T:TypeId} {ty:Ty} {o1 o2:Bool} {l x r:List V} {i:Int} (ht:tab T=some ty) (hI:ZhM P f T ty.kinds.length ty.bytes) (hv:Zcp ty.bytes l i x=some r):
  SumOk P tab f [.rr T o1 l, .int .i64 i, .rr T o2 x] (.rr T (o1&&o2) r,[.dead, .dead]):=by
 have e0:=Zln (P:=P) (own:=false) ht hI hv
 have e1:=Zln (P:=P) (own:=true) ht hI hv
 cases o1 <;> cases o2
 ·exact e0
 ·intro w ok vals t n hrq hnd hok hlt
  cases hrq with | @cons _ v t1 n1 _ vs1 ts1 ns1 hx hxs=>
  cases hxs with | @cons _ v2 t2 n2 _ vs2 ts2 ns2 hx2 hxs=>
  cases hxs with | @cons _ v3 t3 n3 _ vs3 ts3 ns3 hx3 hxs=>
  cases hxs
  obtain⟨hrow3,rfl⟩:=ZkS hx3
  have hI1:RqL (Rq2 tab w (fun g=>ok g∨g∈n3)) [.rr T false l, .int .i64 i, .rr T false x] [v,v2,v3] (t1++(t2++(Zr v3++[]))) (n1++(n2++([]++[]))):=
   .cons (hx.keep fun _ h=>.inl h) (.cons (hx2.keep fun _ h=>.inl h) (.cons (.one (.row hrow3.soft)) .nil))
  obtain⟨hd1,hd2,hd3⟩:=List.nodup_append.1 hnd
  have hsub:(n1++(n2++(([]:List Nat)++[]))).Sublist (n1++(n2++(n3++[]))):=(List.Sublist.refl _).append ((List.Sublist.refl _).append ((List.nil_sublist _).append (List.Sublist.refl _)))
  refine Calls.mono (e0 w (fun g=>ok g∨g∈n3) [v,v2,v3] _ _ hI1 (((List.Sublist.refl _).append hsub).nodup hnd) (fun g hg=>?_) fun g hg=>hlt g (((List.Sublist.refl _).append hsub).mem hg)) ?_
  ·rcases hg with hg | hg
   ·exact hok g hg
   ·have hm:g∈n1++(n2++(n3++[])):=by simp[hg]
    exact⟨hlt g (List.mem_append_right _ hm),fun ht'=>hd3 g ht' g hm rfl⟩
  ·rintro e w' ⟨val,he,ha⟩
   exact⟨val,he,ZkT ha (n':=n1++(n2++(n3++[]))) (fun g hg=>hg.elim (fun a=>hsub.mem a) fun a=>by simp[a]) fun R ot on h=>ZkU h⟩
 ·intro w ok vals t n hrq hnd hok hlt
  cases hrq with | @cons _ v t1 n1 _ vs1 ts1 ns1 hx hxs=>
  cases hxs with | @cons _ v2 t2 n2 _ vs2 ts2 ns2 hx2 hxs=>
  cases hxs with | @cons _ v3 t3 n3 _ vs3 ts3 ns3 hx3 hxs=>
  cases hxs
  obtain⟨hrow,rfl⟩:=ZkS hx
  have hI1:RqL (Rq2 tab w (fun g=>ok g∨g∈n1)) [.rr T false l, .int .i64 i, .rr T false x] [v,v2,v3] (Zr v++(t2++(t3++[]))) ([]++(n2++(n3++[]))):=
   .cons (.one (.row hrow.soft)) (.cons (hx2.keep fun _ h=>.inl h) (.cons (hx3.keep fun _ h=>.inl h) .nil))
  obtain⟨hd1,hd2,hd3⟩:=List.nodup_append.1 hnd
  have hsub:(([]:List Nat)++(n2++(n3++[]))).Sublist (n1++(n2++(n3++[]))):=(List.nil_sublist _).append (List.Sublist.refl _)
  refine Calls.mono (e0 w (fun g=>ok g∨g∈n1) [v,v2,v3] _ _ hI1 (((List.Sublist.refl _).append hsub).nodup hnd) (fun g hg=>?_) fun g hg=>hlt g (((List.Sublist.refl _).append hsub).mem hg)) ?_
  ·rcases hg with hg | hg
   ·exact hok g hg
   ·have hm:g∈n1++(n2++(n3++[])):=List.mem_append_left _ hg
    exact⟨hlt g (List.mem_append_right _ hm),fun ht'=>hd3 g ht' g hm rfl⟩
  ·rintro e w' ⟨val,he,ha⟩
   exact⟨val,he,ZkT ha (n':=n1++(n2++(n3++[]))) (fun g hg=>hg.elim (fun a=>hsub.mem a) fun a=>List.mem_append_left _ a) fun R ot on h=>ZkU h⟩
 ·exact e1
def enIns2 (hB:Base P tab) {f:FuncId} {fn:Func} (hf:P.funcs[f]? = some fn) (hb:(!(fn.name == "runtime.NumGoroutine")&&fn.body.isSome)=true) (T:TypeId) {ty:Ty} (ht:tab T=some ty) (o1 o2:Bool) (bytes:Nat) (hbytes:ty.bytes=bytes) (hI:ZhM P f T ty.kinds.length ty.bytes) (par:List (Option TypeId)):En P tab:=
 {f:=f
  s:=fun a=>bif Zbu [.one (.rr T o1), .one (.int .i64), .one (.rr T o2)] a then some ((Zcp bytes (rd a 0).L (rd a 1).I (rd a 2).L).isSome,(V.rr T (o1&&o2) ((Zcp bytes (rd a 0).L (rd a 1).I (rd a 2).L).getD default),[V.dead,V.dead])) else none
  ok:=by
   intro args r h
   cases hs:Zbu [.one (.rr T o1), .one (.int .i64), .one (.rr T o2)] args with
   | false=>rw[hs] at h;cases h
   | true=>
    rw[hs] at h
    simp only[cond_true,Option.some.injEq,Prod.mk.injEq] at h
    obtain⟨h1,h2⟩:=h
    obtain⟨x,hx⟩:=Option.isSome_iff_exists.1 h1
    rw[hx] at h2
    have ha:=Zdv (pre:=[]) hs
    simp only[List.nil_append,List.length_nil,ZdM,S2.mk,S1.mk] at ha
    rw[←ha,←h2]
    subst hbytes
    exact ZmX ht hI hx
  en:=Zcr hf hb,par:=par,wr:=true }
end
end Go.Eng
open Go Go.Eng
namespace Go.Eng.R
def chunks:List (List (Option Ty)):=[
 [none,
  some ⟨[.fn],false,none,[],8⟩,
  some ⟨[.int .i64],false,none,[],8⟩,
  some ⟨[.int .i64],false,none,[],8⟩,
  some ⟨[.bool],false,none,[],1⟩,
  some ⟨[.int .u8],false,none,[],1⟩,
  some ⟨[.int .u8],false,none,[],1⟩,
  some ⟨[.int .i64, .int .i64, .bool, .int .u8],true,none,[(0,2),(1,3),(2,4),(3,6)],24⟩,
  some ⟨[.int .i64, .int .i64, .bool, .int .u8],true,none,[(0,2),(1,3),(2,4),(3,6)],24⟩,
  some ⟨[.str],false,none,[],16⟩,
  some ⟨[.str],false,none,[],16⟩,
  some ⟨[.str],false,none,[],16⟩,
  some ⟨[.int .u64],false,none,[],8⟩,
  some ⟨[.str, .int .u64],true,none,[(0,9),(1,12)],24⟩,
  some ⟨[.str, .int .u64],true,none,[(0,9),(1,12)],24⟩,
  some ⟨[.ptr],false,none,[],8⟩],
 [some ⟨[.ptr],false,none,[],8⟩,
  some ⟨[.ptr],false,none,[],8⟩,
  some ⟨[.ptr],true,none,[(0,17)],8⟩,
  some ⟨[.ptr],true,none,[(0,17)],8⟩,
  none,
  some ⟨[.int .i32],false,none,[],4⟩,
  some ⟨[.sl 249],false,some 249,[],24⟩,
  some ⟨[.sl 251],false,some 251,[],24⟩,
  some ⟨[.sl 255],false,some 255,[],24⟩,
  some ⟨[.sl 259],false,some 259,[],24⟩,
  some ⟨[.int .i64, .sl 249, .sl 251, .int .i64, .sl 255, .sl 259],true,none,[(0,3),(1,22),(2,23),(3,3),(4,24),(5,25)],112⟩,
  some ⟨[.int .i64, .sl 249, .sl 251, .int .i64, .sl 255, .sl 259],true,none,[(0,3),(1,22),(2,23),(3,3),(4,24),(5,25)],112⟩,
  some ⟨[.sl 35],false,some 35,[],24⟩,
  some ⟨[.int .i64, .sl 249, .sl 251, .int .i64, .sl 255, .sl 259, .sl 35],true,none,[(0,27),(6,28)],136⟩,
  some ⟨[.int .i64, .sl 249, .sl 251, .int .i64, .sl 255, .sl 259, .sl 35],true,none,[(0,27),(6,28)],136⟩,
  some ⟨[.sl 5],false,some 5,[],24⟩],
 [some ⟨[.int .i64, .sl 5, .sl 5, .int .i64],true,none,[(0,3),(1,31),(2,31),(3,3)],64⟩,
  some ⟨[.int .i64, .sl 5, .sl 5, .int .i64],true,none,[(0,3),(1,31),(2,31),(3,3)],64⟩,
  some ⟨[.int .i64, .int .i64, .int .i64, .sl 5, .sl 5, .int .i64],true,none,[(0,3),(1,3),(2,33)],80⟩,
  some ⟨[.int .i64, .int .i64, .int .i64, .sl 5, .sl 5, .int .i64],true,none,[(0,3),(1,3),(2,33)],80⟩,
  some ⟨[.fn],false,none,[],8⟩,
  some ⟨[.fn],false,none,[],8⟩,
  some ⟨[.sl 143],false,some 143,[],24⟩,
  some ⟨[.sl 147],false,some 147,[],24⟩,
  some ⟨[.sl 152],false,some 152,[],24⟩,
  some ⟨[.sl 154],false,some 154,[],24⟩,
  some ⟨[.int .i64, .sl 143, .sl 147, .int .i64, .sl 152, .sl 154],true,none,[(0,3),(1,38),(2,39),(3,3),(4,40),(5,41)],112⟩,
  some ⟨[.int .i64, .sl 143, .sl 147, .int .i64, .sl 152, .sl 154],true,none,[(0,3),(1,38),(2,39),(3,3),(4,40),(5,41)],112⟩,
  some ⟨[.sl 52],false,some 52,[],24⟩,
  some ⟨[.int .i64, .sl 143, .sl 147, .int .i64, .sl 152, .sl 154, .sl 52],true,none,[(0,43),(6,44)],136⟩,
  some ⟨[.int .i64, .sl 143, .sl 147, .int .i64, .sl 152, .sl 154, .sl 52],true,none,[(0,43),(6,44)],136⟩,
  none],
 [some ⟨[.fn],false,none,[],8⟩,
  some ⟨[.fn],false,none,[],8⟩,
  some ⟨[.int .i64, .sl 5, .sl 5, .int .i64],true,none,[(0,3),(1,31),(2,31),(3,3)],64⟩,
  some ⟨[.int .i64, .int .i64, .int .i64, .sl 5, .sl 5, .int .i64],true,none,[(0,3),(1,3),(2,50)],80⟩,
  some ⟨[.int .i64, .int .i64, .int .i64, .sl 5, .sl 5, .int .i64],true,none,[(0,3),(1,3),(2,50)],80⟩,
  some ⟨[.fn],false,none,[],8⟩,
  some ⟨[.fn],false,none,[],8⟩,
  some ⟨[.fn],false,none,[],8⟩,
  some ⟨[.fn],false,none,[],8⟩,
  some ⟨[.fn],false,none,[],8⟩,
  some ⟨[.fn],false,none,[],8⟩,
  some ⟨[.sl 130],false,some 130,[],24⟩,
  some ⟨[.fn],false,none,[],8⟩,
  some ⟨[.fn],false,none,[],8⟩,
  some ⟨[.sl 78],false,some 78,[],24⟩,
  some ⟨[.fn],false,none,[],8⟩],
 [some ⟨[.fn],false,none,[],8⟩,
  some ⟨[.fn],false,none,[],8⟩,
  some ⟨[.fn],false,none,[],8⟩,
  some ⟨[.fn],false,none,[],8⟩,
  some ⟨[.sl 74],false,some 74,[],24⟩,
  none,
  some ⟨[.fn],false,none,[],8⟩,
  some ⟨[.fn],false,none,[],8⟩,
  some ⟨[.fn],false,none,[],8⟩,
  some ⟨[.int .i64, .int .i64],true,none,[(0,3),(1,3)],16⟩,
  some ⟨[.int .i64, .int .i64],true,none,[(0,3),(1,3)],16⟩,
  none,
  some ⟨[.fn],false,none,[],8⟩,
  some ⟨[.int .i64, .int .i64, .int .i64, .int .i64, .sl 5, .sl 5, .int .i64],true,none,[(0,3),(1,52)],88⟩,
  some ⟨[.int .i64, .int .i64, .int .i64, .int .i64, .sl 5, .sl 5, .int .i64],true,none,[(0,3),(1,52)],88⟩,
  some ⟨[.fn],false,none,[],8⟩],
 [some ⟨[.fn],false,none,[],8⟩,
  some ⟨[.fn],false,none,[],8⟩,
  some ⟨[.fn],false,none,[],8⟩,
  some ⟨[.fn],false,none,[],8⟩,
  some ⟨[.fn],false,none,[],8⟩,
  some ⟨[.fn],false,none,[],8⟩,
  some ⟨[.fn],false,none,[],8⟩,
  some ⟨[.fn],false,none,[],8⟩,
  none,
  some ⟨[.fn],false,none,[],8⟩,
  some ⟨[.fn],false,none,[],8⟩,
  none,
  some ⟨[.fn],false,none,[],8⟩,
  some ⟨[.fn],false,none,[],8⟩,
  none,
  some ⟨[.fn],false,none,[],8⟩],
 [some ⟨[.sl 205],false,some 205,[],24⟩,
  some ⟨[.sl 5, .sl 205],true,none,[(0,31),(1,96)],48⟩,
  some ⟨[.sl 5, .sl 205],true,none,[(0,31),(1,96)],48⟩,
  none,
  some ⟨[.fn],false,none,[],8⟩,
  some ⟨[.sl 50],false,some 50,[],24⟩,
  none,
  some ⟨[.fn],false,none,[],8⟩,
  some ⟨[.fn],false,none,[],8⟩,
  some ⟨[.sl 111],false,some 111,[],24⟩,
  some ⟨[.fn],false,none,[],8⟩,
  some ⟨[.int .i64, .bool, .sl 5],true,none,[(0,3),(1,4),(2,31)],40⟩,
  some ⟨[.int .i64, .bool, .sl 5],true,none,[(0,3),(1,4),(2,31)],40⟩,
  some ⟨[.fn],false,none,[],8⟩,
  some ⟨[.sl 5, .sl 5],true,none,[(0,31),(1,31)],48⟩,
  some ⟨[.sl 5, .sl 5],true,none,[(0,31),(1,31)],48⟩],
 [some ⟨[.fn],false,none,[],8⟩,
  some ⟨[.fn],false,none,[],8⟩,
  some ⟨[.fn],false,none,[],8⟩,
  some ⟨[.fn],false,none,[],8⟩,
  some ⟨[.fn],false,none,[],8⟩,
  some ⟨[.int .i64, .int .i64, .int .i64, .int .i64, .sl 5, .sl 5, .int .i64],true,none,[(0,3),(1,52)],88⟩,
  some ⟨[.int .i64, .int .i64, .int .i64, .int .i64, .sl 5, .sl 5, .int .i64],true,none,[(0,3),(1,52)],88⟩,
  some ⟨[.fn],false,none,[],8⟩,
  some ⟨[.fn],false,none,[],8⟩,
  some ⟨[.fn],false,none,[],8⟩,
  some ⟨[.fn],false,none,[],8⟩,
  some ⟨[.fn],false,none,[],8⟩,
  some ⟨[.fn],false,none,[],8⟩,
  some ⟨[.fn],false,none,[],8⟩,
  some ⟨[.fn],false,none,[],8⟩,
  some ⟨[.fn],false,none,[],8⟩],
 [some ⟨[.fn],false,none,[],8⟩,
  some ⟨[.int .i64, .int .i64, .int .i64, .int .i64, .sl 5, .sl 5, .int .i64],true,none,[(0,3),(1,35)],88⟩,
  some ⟨[.int .i64, .int .i64, .int .i64, .int .i64, .sl 5, .sl 5, .int .i64],true,none,[(0,3),(1,35)],88⟩,
  some ⟨[.fn],false,none,[],8⟩,
  some ⟨[.ptr],false,none,[],8⟩,
  some ⟨[.fn],false,none,[],8⟩,
  some ⟨[.fn],false,none,[],8⟩,
  some ⟨[.fn],false,none,[],8⟩,
  some ⟨[.fn],false,none,[],8⟩,
  some ⟨[.ptr],false,none,[],8⟩,
  some ⟨[.fn],false,none,[],8⟩,
  some ⟨[.fn],false,none,[],8⟩,
  some ⟨[.fn],false,none,[],8⟩,
  some ⟨[.fn],false,none,[],8⟩,
  some ⟨[.sl 5, .sl 5, .int .i64, .int .i64],true,none,[(0,31),(1,31),(2,3),(3,3)],64⟩,
  some ⟨[.sl 5, .sl 5, .int .i64, .int .i64],true,none,[(0,31),(1,31),(2,3),(3,3)],64⟩],
 [some ⟨[.fn],false,none,[],8⟩,
  some ⟨[.fn],false,none,[],8⟩,
  some ⟨[.sl 5, .int .i64],true,none,[(0,31),(1,3)],32⟩,
  some ⟨[.sl 5, .int .i64],true,none,[(0,31),(1,3)],32⟩,
  none,
  some ⟨[.fn],false,none,[],8⟩,
  some ⟨[.fn],false,none,[],8⟩,
  some ⟨[.int .i64, .bool],true,none,[(0,3),(1,4)],16⟩,
  some ⟨[.int .i64, .bool],true,none,[(0,3),(1,4)],16⟩,
  some ⟨[.int .i64, .int .i64, .int .i64, .int .i64],true,none,[(0,3),(1,3),(2,74)],32⟩,
  some ⟨[.int .i64, .int .i64, .int .i64, .int .i64],true,none,[(0,3),(1,3),(2,74)],32⟩,
  some ⟨[.fn],false,none,[],8⟩,
  some ⟨[.sl 161],false,some 161,[],24⟩,
  some ⟨[.fn],false,none,[],8⟩,
  some ⟨[.fn],false,none,[],8⟩,
  some ⟨[.fn],false,none,[],8⟩],
 [some ⟨[.int .i64, .int .i64, .int .i64, .int .i64, .sl 5, .sl 5, .int .i64, .sl 5],true,none,[(0,3),(1,3),(2,3),(3,50),(7,31)],112⟩,
  some ⟨[.int .i64, .int .i64, .int .i64, .int .i64, .sl 5, .sl 5, .int .i64, .sl 5],true,none,[(0,3),(1,3),(2,3),(3,50),(7,31)],112⟩,
  some ⟨[.sl 171],false,some 171,[],24⟩,
  some ⟨[.sl 174],false,some 174,[],24⟩,
  some ⟨[.sl 243],false,some 243,[],24⟩,
  some ⟨[.sl 43],false,some 43,[],24⟩,
  some ⟨[.sl 4],false,some 4,[],24⟩,
  some ⟨[.bool, .bool, .sl 78, .sl 171, .sl 174, .sl 174, .sl 243, .sl 43, .sl 4, .int .i64, .int .i64],true,none,[(0,4),(1,4),(2,62),(3,162),(4,163),(5,163),(6,164),(7,165),(8,166),(9,3),(10,3)],192⟩,
  some ⟨[.bool, .bool, .sl 78, .sl 171, .sl 174, .sl 174, .sl 243, .sl 43, .sl 4, .int .i64, .int .i64],true,none,[(0,4),(1,4),(2,62),(3,162),(4,163),(5,163),(6,164),(7,165),(8,166),(9,3),(10,3)],192⟩,
  some ⟨[.fn],false,none,[],8⟩,
  some ⟨[.int .i64, .int .i64, .int .i64, .sl 5, .sl 5, .int .i64, .int .i64, .int .i64, .int .i64, .int .i64],true,none,[(0,3),(1,3),(2,50),(6,3),(7,3),(8,74)],112⟩,
  some ⟨[.int .i64, .int .i64, .int .i64, .sl 5, .sl 5, .int .i64, .int .i64, .int .i64, .int .i64, .int .i64],true,none,[(0,3),(1,3),(2,50),(6,3),(7,3),(8,74)],112⟩,
  some ⟨[.fn],false,none,[],8⟩,
  some ⟨[.int .i64, .int .i64, .sl 5, .int .i64, .int .i64, .int .i64, .bool, .sl 5],true,none,[(0,3),(1,3),(2,31),(3,3),(4,3),(5,108)],96⟩,
  some ⟨[.int .i64, .int .i64, .sl 5, .int .i64, .int .i64, .int .i64, .bool, .sl 5],true,none,[(0,3),(1,3),(2,31),(3,3),(4,3),(5,108)],96⟩,
  some ⟨[.fn],false,none,[],8⟩],
 [some ⟨[.fn],false,none,[],8⟩,
  some ⟨[.fn],false,none,[],8⟩,
  some ⟨[.fn],false,none,[],8⟩,
  some ⟨[.fn],false,none,[],8⟩,
  some ⟨[.fn],false,none,[],8⟩,
  some ⟨[.fn],false,none,[],8⟩,
  some ⟨[.fn],false,none,[],8⟩,
  some ⟨[.fn],false,none,[],8⟩,
  some ⟨[.fn],false,none,[],8⟩,
  some ⟨[.fn],false,none,[],8⟩,
  some ⟨[.fn],false,none,[],8⟩,
  some ⟨[.fn],false,none,[],8⟩,
  some ⟨[.fn],false,none,[],8⟩,
  some ⟨[.fn],false,none,[],8⟩,
  some ⟨[.fn],false,none,[],8⟩,
  some ⟨[.fn],false,none,[],8⟩],
 [some ⟨[.fn],false,none,[],8⟩,
  some ⟨[.sl 3],false,some 3,[],24⟩,
  some ⟨[.fn],false,none,[],8⟩,
  some ⟨[.fn],false,none,[],8⟩,
  some ⟨[.fn],false,none,[],8⟩,
  some ⟨[.fn],false,none,[],8⟩,
  some ⟨[.fn],false,none,[],8⟩,
  some ⟨[.fn],false,none,[],8⟩,
  some ⟨[.fn],false,none,[],8⟩,
  some ⟨[.fn],false,none,[],8⟩,
  some ⟨[.fn],false,none,[],8⟩,
  some ⟨[.sl 209],false,some 209,[],24⟩,
  some ⟨[.sl 5, .sl 209],true,none,[(0,31),(1,203)],48⟩,
  some ⟨[.sl 5, .sl 209],true,none,[(0,31),(1,203)],48⟩,
  some ⟨[.fn],false,none,[],8⟩,
  some ⟨[.fn],false,none,[],8⟩],
 [some ⟨[.sl 5, .int .i64, .int .i64, .int .i64, .int .i64, .int .i64],true,none,[(0,31),(1,3),(2,3),(3,3),(4,3),(5,3)],64⟩,
  some ⟨[.sl 5, .int .i64, .int .i64, .int .i64, .int .i64, .int .i64],true,none,[(0,31),(1,3),(2,3),(3,3),(4,3),(5,3)],64⟩,
  some ⟨[.fn],false,none,[],8⟩,
  some ⟨[.fn],false,none,[],8⟩,
  some ⟨[.fn],false,none,[],8⟩,
  some ⟨[.fn],false,none,[],8⟩,
  some ⟨[.fn],false,none,[],8⟩,
  some ⟨[.fn],false,none,[],8⟩,
  some ⟨[.fn],false,none,[],8⟩,
  some ⟨[.fn],false,none,[],8⟩,
  some ⟨[.fn],false,none,[],8⟩,
  some ⟨[.fn],false,none,[],8⟩,
  some ⟨[.fn],false,none,[],8⟩,
  some ⟨[.fn],false,none,[],8⟩,
  some ⟨[.sl 5, .int .i64, .int .i64],true,none,[(0,31),(1,3),(2,3)],40⟩,
  some ⟨[.sl 5, .int .i64, .int .i64],true,none,[(0,31),(1,3),(2,3)],40⟩],
 [some ⟨[.fn],false,none,[],8⟩,
  some ⟨[.fn],false,none,[],8⟩,
  some ⟨[.fn],false,none,[],8⟩,
  some ⟨[.fn],false,none,[],8⟩,
  some ⟨[.fn],false,none,[],8⟩,
  some ⟨[.fn],false,none,[],8⟩,
  some ⟨[.fn],false,none,[],8⟩,
  some ⟨[.fn],false,none,[],8⟩,
  some ⟨[.fn],false,none,[],8⟩,
  some ⟨[.ptr],false,none,[],8⟩,
  some ⟨[.fn],false,none,[],8⟩,
  some ⟨[.sl 240],false,some 240,[],24⟩,
  some ⟨[.sl 311],false,some 311,[],24⟩,
  some ⟨[.sl 240, .sl 3, .sl 3, .sl 311, .int .i64, .bool, .bool, .sl 78, .sl 171, .sl 174, .sl 174, .sl 243, .sl 43, .sl 4, .int .i64, .int .i64],true,none,[(0,235),(1,193),(2,193),(3,236),(4,3),(5,168)],296⟩,
  some ⟨[.sl 240, .sl 3, .sl 3, .sl 311, .int .i64, .bool, .bool, .sl 78, .sl 171, .sl 174, .sl 174, .sl 243, .sl 43, .sl 4, .int .i64, .int .i64],true,none,[(0,235),(1,193),(2,193),(3,236),(4,3),(5,168)],296⟩,
  some ⟨[.fn],false,none,[],8⟩],
 [some ⟨[.ptr],false,none,[],8⟩,
  some ⟨[.sl 118],false,some 118,[],24⟩,
  some ⟨[.int .i64, .int .i64, .int .i64, .sl 118, .int .i64, .int .i64, .int .i64, .int .i64, .sl 4, .sl 3, .sl 3],true,none,[(0,3),(1,3),(2,3),(3,241),(4,3),(5,3),(6,3),(7,3),(8,166),(9,193),(10,193)],152⟩,
  some ⟨[.int .i64, .int .i64, .int .i64, .sl 118, .int .i64, .int .i64, .int .i64, .int .i64, .sl 4, .sl 3, .sl 3],true,none,[(0,3),(1,3),(2,3),(3,241),(4,3),(5,3),(6,3),(7,3),(8,166),(9,193),(10,193)],152⟩,
  some ⟨[.sl 287],false,some 287,[],24⟩,
  some ⟨[.int .i64, .int .i64, .int .i64, .sl 118, .int .i64, .int .i64, .int .i64, .int .i64, .sl 4, .sl 3, .sl 3, .int .i64, .sl 143, .sl 147, .int .i64, .sl 152, .sl 154, .int .i64, .bool, .sl 287],true,none,[(0,243),(11,43),(17,3),(18,4),(19,244)],304⟩,
  some ⟨[.int .i64, .int .i64, .int .i64, .sl 118, .int .i64, .int .i64, .int .i64, .int .i64, .sl 4, .sl 3, .sl 3, .int .i64, .sl 143, .sl 147, .int .i64, .sl 152, .sl 154, .int .i64, .bool, .sl 287],true,none,[(0,243),(11,43),(17,3),(18,4),(19,244)],304⟩,
  some ⟨[.fn],false,none,[],8⟩,
  some ⟨[.fn],false,none,[],8⟩,
  some ⟨[.sl 5, .sl 5, .int .i64, .int .i64],true,none,[(0,31),(1,31),(2,3),(3,3)],64⟩,
  some ⟨[.fn],false,none,[],8⟩,
  some ⟨[.sl 5, .int .i64],true,none,[(0,31),(1,3)],32⟩,
  some ⟨[.fn],false,none,[],8⟩,
  some ⟨[.fn],false,none,[],8⟩,
  some ⟨[.fn],false,none,[],8⟩,
  some ⟨[.int .i64, .bool],true,none,[(0,3),(1,4)],16⟩],
 [some ⟨[.fn],false,none,[],8⟩,
  some ⟨[.int .i64, .int .i64],true,none,[(0,3),(1,3)],16⟩,
  some ⟨[.int .i64, .int .i64, .int .i64, .int .i64],true,none,[(0,3),(1,3),(2,257)],32⟩,
  some ⟨[.int .i64, .int .i64, .int .i64, .int .i64],true,none,[(0,3),(1,3),(2,257)],32⟩,
  some ⟨[.fn],false,none,[],8⟩,
  some ⟨[.fn],false,none,[],8⟩,
  some ⟨[.fn],false,none,[],8⟩,
  some ⟨[.fn],false,none,[],8⟩,
  some ⟨[.fn],false,none,[],8⟩,
  some ⟨[.fn],false,none,[],8⟩,
  some ⟨[.sl 9],false,some 9,[],24⟩,
  some ⟨[.fn],false,none,[],8⟩,
  some ⟨[.fn],false,none,[],8⟩,
  some ⟨[.fn],false,none,[],8⟩,
  some ⟨[.fn],false,none,[],8⟩,
  some ⟨[.fn],false,none,[],8⟩],
 [some ⟨[.fn],false,none,[],8⟩,
  some ⟨[.fn],false,none,[],8⟩,
  some ⟨[.fn],false,none,[],8⟩,
  some ⟨[.fn],false,none,[],8⟩,
  some ⟨[.fn],false,none,[],8⟩,
  some ⟨[.fn],false,none,[],8⟩,
  some ⟨[.fn],false,none,[],8⟩,
  some ⟨[.fn],false,none,[],8⟩,
  some ⟨[.int .u64],false,none,[],8⟩,
  some ⟨[.fn],false,none,[],8⟩,
  none,
  some ⟨[.fn],false,none,[],8⟩,
  some ⟨[.fn],false,none,[],8⟩,
  some ⟨[.fn],false,none,[],8⟩,
  some ⟨[.sl 5, .int .i64],true,none,[(0,31),(1,3)],32⟩,
  some ⟨[.sl 5, .int .i64],true,none,[(0,31),(1,3)],32⟩],
 [some ⟨[.fn],false,none,[],8⟩,
  some ⟨[.fn],false,none,[],8⟩,
  some ⟨[.fn],false,none,[],8⟩,
  some ⟨[.fn],false,none,[],8⟩,
  some ⟨[.fn],false,none,[],8⟩,
  none,
  some ⟨[.fn],false,none,[],8⟩,
  some ⟨[.fn],false,none,[],8⟩,
  none,
  some ⟨[.fn],false,none,[],8⟩,
  some ⟨[.fn],false,none,[],8⟩,
  some ⟨[.fn],false,none,[],8⟩,
  some ⟨[.sl 31],false,some 31,[],24⟩,
  some ⟨[.fn],false,none,[],8⟩,
  some ⟨[.fn],false,none,[],8⟩,
  some ⟨[.fn],false,none,[],8⟩],
 [some ⟨[.fn],false,none,[],8⟩,
  some ⟨[.fn],false,none,[],8⟩,
  some ⟨[.fn],false,none,[],8⟩,
  some ⟨[.fn],false,none,[],8⟩,
  some ⟨[.int .i64, .int .i64, .int .i64, .int .i64, .int .i64, .int .i64, .sl 118, .int .i64, .bool],true,none,[(0,3),(1,3),(2,3),(3,3),(4,3),(5,3),(6,241),(7,3),(8,4)],88⟩,
  some ⟨[.int .i64, .int .i64, .int .i64, .int .i64, .int .i64, .int .i64, .sl 118, .int .i64, .bool],true,none,[(0,3),(1,3),(2,3),(3,3),(4,3),(5,3),(6,241),(7,3),(8,4)],88⟩,
  some ⟨[.int .i64, .int .i64, .int .i64, .int .i64, .int .i64, .int .i64, .int .i64, .sl 118, .int .i64, .bool, .int .i64, .int .i64, .int .i64, .int .i64, .sl 5, .sl 5, .int .i64, .int .i64, .int .i64, .int .i64, .int .i64],true,none,[(0,3),(1,309),(10,3),(11,52),(17,3),(18,3),(19,74)],216⟩,
  some ⟨[.int .i64, .int .i64, .int .i64, .int .i64, .int .i64, .int .i64, .int .i64, .sl 118, .int .i64, .bool, .int .i64, .int .i64, .int .i64, .int .i64, .sl 5, .sl 5, .int .i64, .int .i64, .int .i64, .int .i64, .int .i64],true,none,[(0,3),(1,309),(10,3),(11,52),(17,3),(18,3),(19,74)],216⟩,
  some ⟨[.fn],false,none,[],8⟩,
  some ⟨[.fn],false,none,[],8⟩,
  some ⟨[.ptr],false,none,[],8⟩,
  some ⟨[.fn],false,none,[],8⟩,
  some ⟨[.fn],false,none,[],8⟩,
  some ⟨[.ptr],false,none,[],8⟩,
  some ⟨[.fn],false,none,[],8⟩,
  some ⟨[.fn],false,none,[],8⟩],
 [some ⟨[.fn],false,none,[],8⟩,
  some ⟨[.fn],false,none,[],8⟩,
  none,
  some ⟨[.fn],false,none,[],8⟩,
  some ⟨[.fn],false,none,[],8⟩,
  some ⟨[.fn],false,none,[],8⟩,
  some ⟨[.ptr],false,none,[],8⟩,
  some ⟨[.fn],false,none,[],8⟩,
  some ⟨[.fn],false,none,[],8⟩,
  some ⟨[.fn],false,none,[],8⟩,
  some ⟨[.fn],false,none,[],8⟩,
  some ⟨[.fn],false,none,[],8⟩,
  some ⟨[.fn],false,none,[],8⟩,
  some ⟨[.sl 309],false,some 309,[],24⟩,
  some ⟨[.int .i64, .int .i64, .int .i64, .sl 118, .int .i64, .int .i64, .int .i64, .int .i64, .sl 4, .sl 3, .sl 3, .sl 309],true,none,[(0,243),(11,333)],176⟩,
  some ⟨[.int .i64, .int .i64, .int .i64, .sl 118, .int .i64, .int .i64, .int .i64, .int .i64, .sl 4, .sl 3, .sl 3, .sl 309],true,none,[(0,243),(11,333)],176⟩],
 [some ⟨[.fn],false,none,[],8⟩,
  some ⟨[.fn],false,none,[],8⟩,
  some ⟨[.fn],false,none,[],8⟩,
  some ⟨[.fn],false,none,[],8⟩,
  some ⟨[.fn],false,none,[],8⟩,
  some ⟨[.fn],false,none,[],8⟩,
  some ⟨[.fn],false,none,[],8⟩,
  some ⟨[.fn],false,none,[],8⟩,
  some ⟨[.fn],false,none,[],8⟩,
  some ⟨[.fn],false,none,[],8⟩,
  some ⟨[.fn],false,none,[],8⟩,
  some ⟨[.fn],false,none,[],8⟩,
  some ⟨[.ptr, .ptr, .ptr, .str],true,none,[(0,17),(1,17),(2,17),(3,9)],40⟩,
  some ⟨[.ptr, .ptr, .ptr, .str],true,none,[(0,17),(1,17),(2,17),(3,9)],40⟩,
  none,
  none],
 [none,
  some ⟨[.int .u32],false,none,[],4⟩,
  some ⟨[.int .u8],false,none,[],1⟩,
  some ⟨[.int .u8],false,none,[],1⟩,
  some ⟨[.fn],false,none,[],8⟩,
  some ⟨[.ptr],false,none,[],8⟩,
  some ⟨[.int .i32],false,none,[],4⟩,
  some ⟨[.int .i32],false,none,[],4⟩,
  some ⟨[.int .u64, .int .u64, .int .u32, .int .u8, .int .u8, .int .u8, .int .u8, .fn, .ptr, .int .i32, .int .i32],true,none,[(0,12),(1,12),(2,353),(3,354),(4,5),(5,5),(6,355),(7,356),(8,357),(9,358),(10,359)],48⟩,
  some ⟨[.int .u64, .int .u64, .int .u32, .int .u8, .int .u8, .int .u8, .int .u8, .fn, .ptr, .int .i32, .int .i32],true,none,[(0,12),(1,12),(2,353),(3,354),(4,5),(5,5),(6,355),(7,356),(8,357),(9,358),(10,359)],48⟩,
  none,
  none,
  none,
  none,
  none,
  none]]
def tab:Tab:=tabOf chunks
abbrev t_int':TypeId:=3
abbrev Zc:TypeId:=5
abbrev ZpO:TypeId:=31
abbrev Zk:TypeId:=43
abbrev ZE:TypeId:=46
abbrev Zi:TypeId:=52
abbrev Zbz:TypeId:=74
abbrev ZaU:TypeId:=78
abbrev Zg:TypeId:=143
abbrev Zf:TypeId:=147
abbrev Za:TypeId:=152
abbrev Ze:TypeId:=154
abbrev Zz:TypeId:=223
def Zd (x:V):V:=.agg [.int .i64 (gi x 0), .inl Zg (gl x 1), .inl Zf (gl x 2), .int .i64 (gi x 3), .inl Za (gl x 4), .inl Ze (gl x 5)]
def Zp (x:V):V:=.agg [.int .i64 (gi x 0), .inl Zg (gl x 1), .inl Zf (gl x 2), .int .i64 (gi x 3), .inl Za (gl x 4), .inl Ze (gl x 5), .inl Zi (gl x 6)]
def ZpP (x:V):V:=.agg [.int .i64 (gi x 0), .inl Zc (gl x 1), .inl Zc (gl x 2), .int .i64 (gi x 3)]
def Zl (x:V):V:=.agg [.int .i64 (gi x 0), .int .i64 (gi x 1), .int .i64 (gi x 2), .inl Zc (gl x 3), .inl Zc (gl x 4), .int .i64 (gi x 5)]
def ZA (x:V):V:=.agg [.int .i64 (gi x 0), .int .i64 (gi x 1)]
def ZhO (x:V):V:=.agg [.inl Zc (gl x 0), .inl Zc (gl x 1), .int .i64 (gi x 2), .int .i64 (gi x 3)]
def Zn7 (x:V):V:=.agg [.inl Zc (gl x 0), .int .i64 (gi x 1)]
def Zdn (x:V):V:=.agg [.int .i64 (gi x 0), .bool (gb x 1)]
def Zfp (x:V):V:=.agg [.int .i64 (gi x 0), .int .i64 (gi x 1), .int .i64 (gi x 2), .int .i64 (gi x 3)]
def Zb (x:V):V:=.agg [.inl Zc (gl x 0), .int .i64 (gi x 1), .int .i64 (gi x 2)]
abbrev vi (n:Int):V:=.int .i64 n
abbrev vs (k:Nat) (T:TypeId):V:=.sl k T 0 none
abbrev aliveB:Bool:=true
def noL:Loops:=⟨fun _=>[],fun _=>[],fun _=>[],Zbe [],[],fun _=>[]⟩
theorem Zag {cfg:Cfg} {fn:Func}:ZC cfg noL (ZM fn):=GoodAll.ok (l:=[]) GoodAll.nil rfl
end Go.Eng.R
open Go Go.Eng
namespace Go.Eng.R
def Zch:Nat→List V→Int→Int→Option (List V×Int)
 | 0,_,_,_=>none
 | k_+1,code0,h3,i4=>
  bif (decide (i4<((code0.length:Nat):Int))) then
   bif (decide (i4<4000)) then
    bif (Zn i4 code0.length) then
     Zch k_ code0 (bAnd .i64 (IntKind.i64.wrap ((IntKind.i64.wrap ((IntKind.i64.wrap (h3*131))+(IntKind.i64.wrap (gi (rd code0 i4.toNat) 0))))+7)) 1073741823) (IntKind.i64.wrap (i4+1))
    else none
   else some (code0,h3)
  else some (code0,h3)
def ZdC (code:List V):Option (V):=
 Option.bind (Zch ((((code.length:Nat):Int)-0).toNat+1) code (IntKind.i64.wrap (36565+((code.length:Nat):Int))) 0) fun r1=>
 some (V.agg [(V.inl Zc r1.1),(V.int .i64 0),(V.int .i64 r1.2)])
def Zcs (c:V):Option (Int×V):=
 bif (decide ((gi c 1)<(((gl c 0).length:Nat):Int))) then
  bif (Zn (gi c 1) ((gl c 0).length)) then
   some ((bAnd .i64 (IntKind.i64.wrap ((bAnd .i64 (bXor .i64 (ZeG .i64 (IntKind.i64.wrap ((IntKind.i64.wrap ((gi c 2)*6364136223846793005))+1442695040888963407)) 33) (ZeG .i64 (IntKind.i64.wrap ((IntKind.i64.wrap ((gi c 2)*6364136223846793005))+1442695040888963407)) 45)) 255)+(IntKind.i64.wrap (gi (rd (gl c 0) ((gi c 1).toNat)) 0)))) 255),(V.agg [(V.inl Zc (gl c 0)),(V.int .i64 (IntKind.i64.wrap ((gi c 1)+1))),(V.int .i64 (IntKind.i64.wrap ((IntKind.i64.wrap ((gi c 2)*6364136223846793005))+1442695040888963407)))]))
  else none
 else some ((bAnd .i64 (bXor .i64 (ZeG .i64 (IntKind.i64.wrap ((IntKind.i64.wrap ((gi c 2)*6364136223846793005))+1442695040888963407)) 33) (ZeG .i64 (IntKind.i64.wrap ((IntKind.i64.wrap ((gi c 2)*6364136223846793005))+1442695040888963407)) 45)) 255),(V.agg [(V.inl Zc (gl c 0)),(V.int .i64 (gi c 1)),(V.int .i64 (IntKind.i64.wrap ((IntKind.i64.wrap ((gi c 2)*6364136223846793005))+1442695040888963407)))]))
def Zh (c:V) (n:Int):Option (Int×V):=
 bif (decide (n≤0)) then
  some (0,(Zb c))
 else bif (decide (n≤256)) then
  Option.bind (Zcs (Zb c)) fun r3=>
  bif (!(decide (n=0))) then
   some ((r3.1.tmod n),(Zb r3.2))
  else none
 else Option.bind (Zcs (Zb c)) fun r4=>
 Option.bind (Zcs (Zb r4.2)) fun r5=>
 Option.bind (Zcs (Zb r5.2)) fun r6=>
 Option.bind (Zcs (Zb r6.2)) fun r7=>
 bif (!(decide (n=0))) then
  some (((IntKind.i64.wrap ((IntKind.i64.wrap ((IntKind.i64.wrap ((IntKind.i64.wrap (r4.1*16777216))+(IntKind.i64.wrap (r5.1*65536))))+(IntKind.i64.wrap (r6.1*256))))+r7.1)).tmod n),(Zb r7.2))
 else none
def ZN (c:V) (list:List V):Option (Int×V):=
 Option.bind (Zh (Zb c) ((list.length:Nat):Int)) fun r13=>
 bif (Zn r13.1 list.length) then
  some ((gi (rd list r13.1.toNat) 0),(Zb r13.2))
 else none
def Zcw (c:V):Option (List V×V):=
 Option.bind (Zh (Zb c) 5) fun r15=>
 bif (Zn r15.1 5) then
  some ((gs (rd [(V.str []),(V.str [(V.int .u8 120)]),(V.str [(V.int .u8 121)]),(V.str [(V.int .u8 0),(V.int .u8 255)]),(V.str [(V.int .u8 108),(V.int .u8 111),(V.int .u8 110),(V.int .u8 103),(V.int .u8 32),(V.int .u8 118),(V.int .u8 97),(V.int .u8 108),(V.int .u8 117),(V.int .u8 101)])] (0+r15.1.toNat)) 0),(Zb r15.2))
 else none
def Za7 (c:V):Option (List V×V):=
 Option.bind (Zh (Zb c) 5) fun r17=>
 bif (Zn r17.1 5) then
  bif (Zv ((gs (rd [(V.str [(V.int .u8 97)]),(V.str [(V.int .u8 98)]),(V.str [(V.int .u8 99)]),(V.str [(V.int .u8 97),(V.int .u8 47),(V.int .u8 98)]),(V.str [(V.int .u8 100)])] (0+r17.1.toNat)) 0).length) 1) then
   some ((gs (rd [(V.str [(V.int .u8 97)]),(V.str [(V.int .u8 98)]),(V.str [(V.int .u8 99)]),(V.str [(V.int .u8 97),(V.int .u8 47),(V.int .u8 98)]),(V.str [(V.int .u8 100)])] (0+r17.1.toNat)) 0),(Zb r17.2))
  else none
 else none
def ZfC (c:V) (index:Int):Option (V×V):=
 Option.bind (ZN (Zb c) [(V.int .i64 1),(V.int .i64 1),(V.int .i64 1),(V.int .i64 2),(V.int .i64 3),(V.int .i64 3),(V.int .i64 4),(V.int .i64 5),(V.int .i64 6),(V.int .i64 6),(V.int .i64 7),(V.int .i64 0)]) fun r14=>
 bif (decide (r14.1=1)) then
  Option.bind (Zcw (Zb r14.2)) fun r16=>
  bif (!(decide (r14.1=0))) then
   bif (!(decide (r14.1=4))) then
    bif (!(decide (r14.1=5))) then
     Option.bind (Za7 (Zb r16.2)) fun r18=>
     bif (decide (r14.1=4)) then
      Option.bind (Zh (Zb r18.2) 2) fun r19=>
      some ((V.agg [(V.int .i64 r14.1),(V.inl Zc r18.1),(V.inl Zc r16.1),(V.int .i64 r19.1)]),(Zb r19.2))
     else bif (decide (r14.1=2)) then
      Option.bind (Zh (Zb r18.2) (IntKind.i64.wrap (index+1))) fun r20=>
      Option.bind (Zh (Zb r20.2) 2) fun r21=>
      some ((V.agg [(V.int .i64 r14.1),(V.inl Zc r18.1),(V.inl Zc r16.1),(V.int .i64 (IntKind.i64.wrap (r20.1*r21.1)))]),(Zb r21.2))
     else bif (decide (r14.1=5)) then
      Option.bind (Zh (Zb r18.2) 4) fun r22=>
      bif (decide ((0:Int)<index)) then
       Option.bind (Zh (Zb r22.2) index) fun r23=>
       some ((V.agg [(V.int .i64 r14.1),(V.inl Zc r18.1),(V.inl Zc r16.1),(V.int .i64 (IntKind.i64.wrap (1+r23.1)))]),(Zb r23.2))
      else some ((V.agg [(V.int .i64 r14.1),(V.inl Zc r18.1),(V.inl Zc r16.1),(V.int .i64 (IntKind.i64.wrap (1+r22.1)))]),(Zb r22.2))
     else bif (decide (r14.1=6)) then
      Option.bind (Zh (Zb r18.2) 4) fun r24=>
      bif (decide ((0:Int)<index)) then
       Option.bind (Zh (Zb r24.2) index) fun r25=>
       some ((V.agg [(V.int .i64 r14.1),(V.inl Zc r18.1),(V.inl Zc r16.1),(V.int .i64 (IntKind.i64.wrap (1+r25.1)))]),(Zb r25.2))
      else some ((V.agg [(V.int .i64 r14.1),(V.inl Zc r18.1),(V.inl Zc r16.1),(V.int .i64 (IntKind.i64.wrap (1+r24.1)))]),(Zb r24.2))
     else bif (decide (r14.1=7)) then
      Option.bind (Zh (Zb r18.2) 4) fun r26=>
      bif (decide ((0:Int)<index)) then
       Option.bind (Zh (Zb r26.2) index) fun r27=>
       some ((V.agg [(V.int .i64 r14.1),(V.inl Zc r18.1),(V.inl Zc r16.1),(V.int .i64 (IntKind.i64.wrap (1+r27.1)))]),(Zb r27.2))
      else some ((V.agg [(V.int .i64 r14.1),(V.inl Zc r18.1),(V.inl Zc r16.1),(V.int .i64 (IntKind.i64.wrap (1+r26.1)))]),(Zb r26.2))
     else some ((V.agg [(V.int .i64 r14.1),(V.inl Zc r18.1),(V.inl Zc r16.1),(V.int .i64 0)]),(Zb r18.2))
    else bif (decide (r14.1=4)) then
     Option.bind (Zh (Zb r16.2) 2) fun r28=>
     some ((V.agg [(V.int .i64 r14.1),(V.inl Zc []),(V.inl Zc r16.1),(V.int .i64 r28.1)]),(Zb r28.2))
    else bif (decide (r14.1=2)) then
     Option.bind (Zh (Zb r16.2) (IntKind.i64.wrap (index+1))) fun r29=>
     Option.bind (Zh (Zb r29.2) 2) fun r30=>
     some ((V.agg [(V.int .i64 r14.1),(V.inl Zc []),(V.inl Zc r16.1),(V.int .i64 (IntKind.i64.wrap (r29.1*r30.1)))]),(Zb r30.2))
    else bif (decide (r14.1=5)) then
     Option.bind (Zh (Zb r16.2) 4) fun r31=>
     bif (decide ((0:Int)<index)) then
      Option.bind (Zh (Zb r31.2) index) fun r32=>
      some ((V.agg [(V.int .i64 r14.1),(V.inl Zc []),(V.inl Zc r16.1),(V.int .i64 (IntKind.i64.wrap (1+r32.1)))]),(Zb r32.2))
     else some ((V.agg [(V.int .i64 r14.1),(V.inl Zc []),(V.inl Zc r16.1),(V.int .i64 (IntKind.i64.wrap (1+r31.1)))]),(Zb r31.2))
    else bif (decide (r14.1=6)) then
     Option.bind (Zh (Zb r16.2) 4) fun r33=>
     bif (decide ((0:Int)<index)) then
      Option.bind (Zh (Zb r33.2) index) fun r34=>
      some ((V.agg [(V.int .i64 r14.1),(V.inl Zc []),(V.inl Zc r16.1),(V.int .i64 (IntKind.i64.wrap (1+r34.1)))]),(Zb r34.2))
     else some ((V.agg [(V.int .i64 r14.1),(V.inl Zc []),(V.inl Zc r16.1),(V.int .i64 (IntKind.i64.wrap (1+r33.1)))]),(Zb r33.2))
    else bif (decide (r14.1=7)) then
     Option.bind (Zh (Zb r16.2) 4) fun r35=>
     bif (decide ((0:Int)<index)) then
      Option.bind (Zh (Zb r35.2) index) fun r36=>
      some ((V.agg [(V.int .i64 r14.1),(V.inl Zc []),(V.inl Zc r16.1),(V.int .i64 (IntKind.i64.wrap (1+r36.1)))]),(Zb r36.2))
     else some ((V.agg [(V.int .i64 r14.1),(V.inl Zc []),(V.inl Zc r16.1),(V.int .i64 (IntKind.i64.wrap (1+r35.1)))]),(Zb r35.2))
    else some ((V.agg [(V.int .i64 r14.1),(V.inl Zc []),(V.inl Zc r16.1),(V.int .i64 0)]),(Zb r16.2))
   else bif (decide (r14.1=4)) then
    Option.bind (Zh (Zb r16.2) 2) fun r37=>
    some ((V.agg [(V.int .i64 r14.1),(V.inl Zc []),(V.inl Zc r16.1),(V.int .i64 r37.1)]),(Zb r37.2))
   else bif (decide (r14.1=2)) then
    Option.bind (Zh (Zb r16.2) (IntKind.i64.wrap (index+1))) fun r38=>
    Option.bind (Zh (Zb r38.2) 2) fun r39=>
    some ((V.agg [(V.int .i64 r14.1),(V.inl Zc []),(V.inl Zc r16.1),(V.int .i64 (IntKind.i64.wrap (r38.1*r39.1)))]),(Zb r39.2))
   else bif (decide (r14.1=5)) then
    Option.bind (Zh (Zb r16.2) 4) fun r40=>
    bif (decide ((0:Int)<index)) then
     Option.bind (Zh (Zb r40.2) index) fun r41=>
     some ((V.agg [(V.int .i64 r14.1),(V.inl Zc []),(V.inl Zc r16.1),(V.int .i64 (IntKind.i64.wrap (1+r41.1)))]),(Zb r41.2))
    else some ((V.agg [(V.int .i64 r14.1),(V.inl Zc []),(V.inl Zc r16.1),(V.int .i64 (IntKind.i64.wrap (1+r40.1)))]),(Zb r40.2))
   else bif (decide (r14.1=6)) then
    Option.bind (Zh (Zb r16.2) 4) fun r42=>
    bif (decide ((0:Int)<index)) then
     Option.bind (Zh (Zb r42.2) index) fun r43=>
     some ((V.agg [(V.int .i64 r14.1),(V.inl Zc []),(V.inl Zc r16.1),(V.int .i64 (IntKind.i64.wrap (1+r43.1)))]),(Zb r43.2))
    else some ((V.agg [(V.int .i64 r14.1),(V.inl Zc []),(V.inl Zc r16.1),(V.int .i64 (IntKind.i64.wrap (1+r42.1)))]),(Zb r42.2))
   else bif (decide (r14.1=7)) then
    Option.bind (Zh (Zb r16.2) 4) fun r44=>
    bif (decide ((0:Int)<index)) then
     Option.bind (Zh (Zb r44.2) index) fun r45=>
     some ((V.agg [(V.int .i64 r14.1),(V.inl Zc []),(V.inl Zc r16.1),(V.int .i64 (IntKind.i64.wrap (1+r45.1)))]),(Zb r45.2))
    else some ((V.agg [(V.int .i64 r14.1),(V.inl Zc []),(V.inl Zc r16.1),(V.int .i64 (IntKind.i64.wrap (1+r44.1)))]),(Zb r44.2))
   else some ((V.agg [(V.int .i64 r14.1),(V.inl Zc []),(V.inl Zc r16.1),(V.int .i64 0)]),(Zb r16.2))
  else bif (decide (r14.1=4)) then
   Option.bind (Zh (Zb r16.2) 2) fun r46=>
   some ((V.agg [(V.int .i64 r14.1),(V.inl Zc []),(V.inl Zc r16.1),(V.int .i64 r46.1)]),(Zb r46.2))
  else bif (decide (r14.1=2)) then
   Option.bind (Zh (Zb r16.2) (IntKind.i64.wrap (index+1))) fun r47=>
   Option.bind (Zh (Zb r47.2) 2) fun r48=>
   some ((V.agg [(V.int .i64 r14.1),(V.inl Zc []),(V.inl Zc r16.1),(V.int .i64 (IntKind.i64.wrap (r47.1*r48.1)))]),(Zb r48.2))
  else bif (decide (r14.1=5)) then
   Option.bind (Zh (Zb r16.2) 4) fun r49=>
   bif (decide ((0:Int)<index)) then
    Option.bind (Zh (Zb r49.2) index) fun r50=>
    some ((V.agg [(V.int .i64 r14.1),(V.inl Zc []),(V.inl Zc r16.1),(V.int .i64 (IntKind.i64.wrap (1+r50.1)))]),(Zb r50.2))
   else some ((V.agg [(V.int .i64 r14.1),(V.inl Zc []),(V.inl Zc r16.1),(V.int .i64 (IntKind.i64.wrap (1+r49.1)))]),(Zb r49.2))
  else bif (decide (r14.1=6)) then
   Option.bind (Zh (Zb r16.2) 4) fun r51=>
   bif (decide ((0:Int)<index)) then
    Option.bind (Zh (Zb r51.2) index) fun r52=>
    some ((V.agg [(V.int .i64 r14.1),(V.inl Zc []),(V.inl Zc r16.1),(V.int .i64 (IntKind.i64.wrap (1+r52.1)))]),(Zb r52.2))
   else some ((V.agg [(V.int .i64 r14.1),(V.inl Zc []),(V.inl Zc r16.1),(V.int .i64 (IntKind.i64.wrap (1+r51.1)))]),(Zb r51.2))
  else bif (decide (r14.1=7)) then
   Option.bind (Zh (Zb r16.2) 4) fun r53=>
   bif (decide ((0:Int)<index)) then
    Option.bind (Zh (Zb r53.2) index) fun r54=>
    some ((V.agg [(V.int .i64 r14.1),(V.inl Zc []),(V.inl Zc r16.1),(V.int .i64 (IntKind.i64.wrap (1+r54.1)))]),(Zb r54.2))
   else some ((V.agg [(V.int .i64 r14.1),(V.inl Zc []),(V.inl Zc r16.1),(V.int .i64 (IntKind.i64.wrap (1+r53.1)))]),(Zb r53.2))
  else some ((V.agg [(V.int .i64 r14.1),(V.inl Zc []),(V.inl Zc r16.1),(V.int .i64 0)]),(Zb r16.2))
 else bif (decide (r14.1=2)) then
  Option.bind (Zcw (Zb r14.2)) fun r55=>
  bif (!(decide (r14.1=0))) then
   bif (!(decide (r14.1=4))) then
    bif (!(decide (r14.1=5))) then
     Option.bind (Za7 (Zb r55.2)) fun r56=>
     bif (decide (r14.1=4)) then
      Option.bind (Zh (Zb r56.2) 2) fun r57=>
      some ((V.agg [(V.int .i64 r14.1),(V.inl Zc r56.1),(V.inl Zc r55.1),(V.int .i64 r57.1)]),(Zb r57.2))
     else bif (decide (r14.1=2)) then
      Option.bind (Zh (Zb r56.2) (IntKind.i64.wrap (index+1))) fun r58=>
      Option.bind (Zh (Zb r58.2) 2) fun r59=>
      some ((V.agg [(V.int .i64 r14.1),(V.inl Zc r56.1),(V.inl Zc r55.1),(V.int .i64 (IntKind.i64.wrap (r58.1*r59.1)))]),(Zb r59.2))
     else bif (decide (r14.1=5)) then
      Option.bind (Zh (Zb r56.2) 4) fun r60=>
      bif (decide ((0:Int)<index)) then
       Option.bind (Zh (Zb r60.2) index) fun r61=>
       some ((V.agg [(V.int .i64 r14.1),(V.inl Zc r56.1),(V.inl Zc r55.1),(V.int .i64 (IntKind.i64.wrap (1+r61.1)))]),(Zb r61.2))
      else some ((V.agg [(V.int .i64 r14.1),(V.inl Zc r56.1),(V.inl Zc r55.1),(V.int .i64 (IntKind.i64.wrap (1+r60.1)))]),(Zb r60.2))
     else bif (decide (r14.1=6)) then
      Option.bind (Zh (Zb r56.2) 4) fun r62=>
      bif (decide ((0:Int)<index)) then
       Option.bind (Zh (Zb r62.2) index) fun r63=>
       some ((V.agg [(V.int .i64 r14.1),(V.inl Zc r56.1),(V.inl Zc r55.1),(V.int .i64 (IntKind.i64.wrap (1+r63.1)))]),(Zb r63.2))
      else some ((V.agg [(V.int .i64 r14.1),(V.inl Zc r56.1),(V.inl Zc r55.1),(V.int .i64 (IntKind.i64.wrap (1+r62.1)))]),(Zb r62.2))
     else bif (decide (r14.1=7)) then
      Option.bind (Zh (Zb r56.2) 4) fun r64=>
      bif (decide ((0:Int)<index)) then
       Option.bind (Zh (Zb r64.2) index) fun r65=>
       some ((V.agg [(V.int .i64 r14.1),(V.inl Zc r56.1),(V.inl Zc r55.1),(V.int .i64 (IntKind.i64.wrap (1+r65.1)))]),(Zb r65.2))
      else some ((V.agg [(V.int .i64 r14.1),(V.inl Zc r56.1),(V.inl Zc r55.1),(V.int .i64 (IntKind.i64.wrap (1+r64.1)))]),(Zb r64.2))
     else some ((V.agg [(V.int .i64 r14.1),(V.inl Zc r56.1),(V.inl Zc r55.1),(V.int .i64 0)]),(Zb r56.2))
    else bif (decide (r14.1=4)) then
     Option.bind (Zh (Zb r55.2) 2) fun r66=>
     some ((V.agg [(V.int .i64 r14.1),(V.inl Zc []),(V.inl Zc r55.1),(V.int .i64 r66.1)]),(Zb r66.2))
    else bif (decide (r14.1=2)) then
     Option.bind (Zh (Zb r55.2) (IntKind.i64.wrap (index+1))) fun r67=>
     Option.bind (Zh (Zb r67.2) 2) fun r68=>
     some ((V.agg [(V.int .i64 r14.1),(V.inl Zc []),(V.inl Zc r55.1),(V.int .i64 (IntKind.i64.wrap (r67.1*r68.1)))]),(Zb r68.2))
    else bif (decide (r14.1=5)) then
     Option.bind (Zh (Zb r55.2) 4) fun r69=>
     bif (decide ((0:Int)<index)) then
      Option.bind (Zh (Zb r69.2) index) fun r70=>
      some ((V.agg [(V.int .i64 r14.1),(V.inl Zc []),(V.inl Zc r55.1),(V.int .i64 (IntKind.i64.wrap (1+r70.1)))]),(Zb r70.2))
     else some ((V.agg [(V.int .i64 r14.1),(V.inl Zc []),(V.inl Zc r55.1),(V.int .i64 (IntKind.i64.wrap (1+r69.1)))]),(Zb r69.2))
    else bif (decide (r14.1=6)) then
     Option.bind (Zh (Zb r55.2) 4) fun r71=>
     bif (decide ((0:Int)<index)) then
      Option.bind (Zh (Zb r71.2) index) fun r72=>
      some ((V.agg [(V.int .i64 r14.1),(V.inl Zc []),(V.inl Zc r55.1),(V.int .i64 (IntKind.i64.wrap (1+r72.1)))]),(Zb r72.2))
     else some ((V.agg [(V.int .i64 r14.1),(V.inl Zc []),(V.inl Zc r55.1),(V.int .i64 (IntKind.i64.wrap (1+r71.1)))]),(Zb r71.2))
    else bif (decide (r14.1=7)) then
     Option.bind (Zh (Zb r55.2) 4) fun r73=>
     bif (decide ((0:Int)<index)) then
      Option.bind (Zh (Zb r73.2) index) fun r74=>
      some ((V.agg [(V.int .i64 r14.1),(V.inl Zc []),(V.inl Zc r55.1),(V.int .i64 (IntKind.i64.wrap (1+r74.1)))]),(Zb r74.2))
     else some ((V.agg [(V.int .i64 r14.1),(V.inl Zc []),(V.inl Zc r55.1),(V.int .i64 (IntKind.i64.wrap (1+r73.1)))]),(Zb r73.2))
    else some ((V.agg [(V.int .i64 r14.1),(V.inl Zc []),(V.inl Zc r55.1),(V.int .i64 0)]),(Zb r55.2))
   else bif (decide (r14.1=4)) then
    Option.bind (Zh (Zb r55.2) 2) fun r75=>
    some ((V.agg [(V.int .i64 r14.1),(V.inl Zc []),(V.inl Zc r55.1),(V.int .i64 r75.1)]),(Zb r75.2))
   else bif (decide (r14.1=2)) then
    Option.bind (Zh (Zb r55.2) (IntKind.i64.wrap (index+1))) fun r76=>
    Option.bind (Zh (Zb r76.2) 2) fun r77=>
    some ((V.agg [(V.int .i64 r14.1),(V.inl Zc []),(V.inl Zc r55.1),(V.int .i64 (IntKind.i64.wrap (r76.1*r77.1)))]),(Zb r77.2))
   else bif (decide (r14.1=5)) then
    Option.bind (Zh (Zb r55.2) 4) fun r78=>
    bif (decide ((0:Int)<index)) then
     Option.bind (Zh (Zb r78.2) index) fun r79=>
     some ((V.agg [(V.int .i64 r14.1),(V.inl Zc []),(V.inl Zc r55.1),(V.int .i64 (IntKind.i64.wrap (1+r79.1)))]),(Zb r79.2))
    else some ((V.agg [(V.int .i64 r14.1),(V.inl Zc []),(V.inl Zc r55.1),(V.int .i64 (IntKind.i64.wrap (1+r78.1)))]),(Zb r78.2))
   else bif (decide (r14.1=6)) then
    Option.bind (Zh (Zb r55.2) 4) fun r80=>
    bif (decide ((0:Int)<index)) then
     Option.bind (Zh (Zb r80.2) index) fun r81=>
     some ((V.agg [(V.int .i64 r14.1),(V.inl Zc []),(V.inl Zc r55.1),(V.int .i64 (IntKind.i64.wrap (1+r81.1)))]),(Zb r81.2))
    else some ((V.agg [(V.int .i64 r14.1),(V.inl Zc []),(V.inl Zc r55.1),(V.int .i64 (IntKind.i64.wrap (1+r80.1)))]),(Zb r80.2))
   else bif (decide (r14.1=7)) then
    Option.bind (Zh (Zb r55.2) 4) fun r82=>
    bif (decide ((0:Int)<index)) then
     Option.bind (Zh (Zb r82.2) index) fun r83=>
     some ((V.agg [(V.int .i64 r14.1),(V.inl Zc []),(V.inl Zc r55.1),(V.int .i64 (IntKind.i64.wrap (1+r83.1)))]),(Zb r83.2))
    else some ((V.agg [(V.int .i64 r14.1),(V.inl Zc []),(V.inl Zc r55.1),(V.int .i64 (IntKind.i64.wrap (1+r82.1)))]),(Zb r82.2))
   else some ((V.agg [(V.int .i64 r14.1),(V.inl Zc []),(V.inl Zc r55.1),(V.int .i64 0)]),(Zb r55.2))
  else bif (decide (r14.1=4)) then
   Option.bind (Zh (Zb r55.2) 2) fun r84=>
   some ((V.agg [(V.int .i64 r14.1),(V.inl Zc []),(V.inl Zc r55.1),(V.int .i64 r84.1)]),(Zb r84.2))
  else bif (decide (r14.1=2)) then
   Option.bind (Zh (Zb r55.2) (IntKind.i64.wrap (index+1))) fun r85=>
   Option.bind (Zh (Zb r85.2) 2) fun r86=>
   some ((V.agg [(V.int .i64 r14.1),(V.inl Zc []),(V.inl Zc r55.1),(V.int .i64 (IntKind.i64.wrap (r85.1*r86.1)))]),(Zb r86.2))
  else bif (decide (r14.1=5)) then
   Option.bind (Zh (Zb r55.2) 4) fun r87=>
   bif (decide ((0:Int)<index)) then
    Option.bind (Zh (Zb r87.2) index) fun r88=>
    some ((V.agg [(V.int .i64 r14.1),(V.inl Zc []),(V.inl Zc r55.1),(V.int .i64 (IntKind.i64.wrap (1+r88.1)))]),(Zb r88.2))
   else some ((V.agg [(V.int .i64 r14.1),(V.inl Zc []),(V.inl Zc r55.1),(V.int .i64 (IntKind.i64.wrap (1+r87.1)))]),(Zb r87.2))
  else bif (decide (r14.1=6)) then
   Option.bind (Zh (Zb r55.2) 4) fun r89=>
   bif (decide ((0:Int)<index)) then
    Option.bind (Zh (Zb r89.2) index) fun r90=>
    some ((V.agg [(V.int .i64 r14.1),(V.inl Zc []),(V.inl Zc r55.1),(V.int .i64 (IntKind.i64.wrap (1+r90.1)))]),(Zb r90.2))
   else some ((V.agg [(V.int .i64 r14.1),(V.inl Zc []),(V.inl Zc r55.1),(V.int .i64 (IntKind.i64.wrap (1+r89.1)))]),(Zb r89.2))
  else bif (decide (r14.1=7)) then
   Option.bind (Zh (Zb r55.2) 4) fun r91=>
   bif (decide ((0:Int)<index)) then
    Option.bind (Zh (Zb r91.2) index) fun r92=>
    some ((V.agg [(V.int .i64 r14.1),(V.inl Zc []),(V.inl Zc r55.1),(V.int .i64 (IntKind.i64.wrap (1+r92.1)))]),(Zb r92.2))
   else some ((V.agg [(V.int .i64 r14.1),(V.inl Zc []),(V.inl Zc r55.1),(V.int .i64 (IntKind.i64.wrap (1+r91.1)))]),(Zb r91.2))
  else some ((V.agg [(V.int .i64 r14.1),(V.inl Zc []),(V.inl Zc r55.1),(V.int .i64 0)]),(Zb r55.2))
 else bif (decide (r14.1=6)) then
  Option.bind (Zcw (Zb r14.2)) fun r93=>
  bif (!(decide (r14.1=0))) then
   bif (!(decide (r14.1=4))) then
    bif (!(decide (r14.1=5))) then
     Option.bind (Za7 (Zb r93.2)) fun r94=>
     bif (decide (r14.1=4)) then
      Option.bind (Zh (Zb r94.2) 2) fun r95=>
      some ((V.agg [(V.int .i64 r14.1),(V.inl Zc r94.1),(V.inl Zc r93.1),(V.int .i64 r95.1)]),(Zb r95.2))
     else bif (decide (r14.1=2)) then
      Option.bind (Zh (Zb r94.2) (IntKind.i64.wrap (index+1))) fun r96=>
      Option.bind (Zh (Zb r96.2) 2) fun r97=>
      some ((V.agg [(V.int .i64 r14.1),(V.inl Zc r94.1),(V.inl Zc r93.1),(V.int .i64 (IntKind.i64.wrap (r96.1*r97.1)))]),(Zb r97.2))
     else bif (decide (r14.1=5)) then
      Option.bind (Zh (Zb r94.2) 4) fun r98=>
      bif (decide ((0:Int)<index)) then
       Option.bind (Zh (Zb r98.2) index) fun r99=>
       some ((V.agg [(V.int .i64 r14.1),(V.inl Zc r94.1),(V.inl Zc r93.1),(V.int .i64 (IntKind.i64.wrap (1+r99.1)))]),(Zb r99.2))
      else some ((V.agg [(V.int .i64 r14.1),(V.inl Zc r94.1),(V.inl Zc r93.1),(V.int .i64 (IntKind.i64.wrap (1+r98.1)))]),(Zb r98.2))
     else bif (decide (r14.1=6)) then
      Option.bind (Zh (Zb r94.2) 4) fun r100=>
      bif (decide ((0:Int)<index)) then
       Option.bind (Zh (Zb r100.2) index) fun r101=>
       some ((V.agg [(V.int .i64 r14.1),(V.inl Zc r94.1),(V.inl Zc r93.1),(V.int .i64 (IntKind.i64.wrap (1+r101.1)))]),(Zb r101.2))
      else some ((V.agg [(V.int .i64 r14.1),(V.inl Zc r94.1),(V.inl Zc r93.1),(V.int .i64 (IntKind.i64.wrap (1+r100.1)))]),(Zb r100.2))
     else bif (decide (r14.1=7)) then
      Option.bind (Zh (Zb r94.2) 4) fun r102=>
      bif (decide ((0:Int)<index)) then
       Option.bind (Zh (Zb r102.2) index) fun r103=>
       some ((V.agg [(V.int .i64 r14.1),(V.inl Zc r94.1),(V.inl Zc r93.1),(V.int .i64 (IntKind.i64.wrap (1+r103.1)))]),(Zb r103.2))
      else some ((V.agg [(V.int .i64 r14.1),(V.inl Zc r94.1),(V.inl Zc r93.1),(V.int .i64 (IntKind.i64.wrap (1+r102.1)))]),(Zb r102.2))
     else some ((V.agg [(V.int .i64 r14.1),(V.inl Zc r94.1),(V.inl Zc r93.1),(V.int .i64 0)]),(Zb r94.2))
    else bif (decide (r14.1=4)) then
     Option.bind (Zh (Zb r93.2) 2) fun r104=>
     some ((V.agg [(V.int .i64 r14.1),(V.inl Zc []),(V.inl Zc r93.1),(V.int .i64 r104.1)]),(Zb r104.2))
    else bif (decide (r14.1=2)) then
     Option.bind (Zh (Zb r93.2) (IntKind.i64.wrap (index+1))) fun r105=>
     Option.bind (Zh (Zb r105.2) 2) fun r106=>
     some ((V.agg [(V.int .i64 r14.1),(V.inl Zc []),(V.inl Zc r93.1),(V.int .i64 (IntKind.i64.wrap (r105.1*r106.1)))]),(Zb r106.2))
    else bif (decide (r14.1=5)) then
     Option.bind (Zh (Zb r93.2) 4) fun r107=>
     bif (decide ((0:Int)<index)) then
      Option.bind (Zh (Zb r107.2) index) fun r108=>
      some ((V.agg [(V.int .i64 r14.1),(V.inl Zc []),(V.inl Zc r93.1),(V.int .i64 (IntKind.i64.wrap (1+r108.1)))]),(Zb r108.2))
     else some ((V.agg [(V.int .i64 r14.1),(V.inl Zc []),(V.inl Zc r93.1),(V.int .i64 (IntKind.i64.wrap (1+r107.1)))]),(Zb r107.2))
    else bif (decide (r14.1=6)) then
     Option.bind (Zh (Zb r93.2) 4) fun r109=>
     bif (decide ((0:Int)<index)) then
      Option.bind (Zh (Zb r109.2) index) fun r110=>
      some ((V.agg [(V.int .i64 r14.1),(V.inl Zc []),(V.inl Zc r93.1),(V.int .i64 (IntKind.i64.wrap (1+r110.1)))]),(Zb r110.2))
     else some ((V.agg [(V.int .i64 r14.1),(V.inl Zc []),(V.inl Zc r93.1),(V.int .i64 (IntKind.i64.wrap (1+r109.1)))]),(Zb r109.2))
    else bif (decide (r14.1=7)) then
     Option.bind (Zh (Zb r93.2) 4) fun r111=>
     bif (decide ((0:Int)<index)) then
      Option.bind (Zh (Zb r111.2) index) fun r112=>
      some ((V.agg [(V.int .i64 r14.1),(V.inl Zc []),(V.inl Zc r93.1),(V.int .i64 (IntKind.i64.wrap (1+r112.1)))]),(Zb r112.2))
     else some ((V.agg [(V.int .i64 r14.1),(V.inl Zc []),(V.inl Zc r93.1),(V.int .i64 (IntKind.i64.wrap (1+r111.1)))]),(Zb r111.2))
    else some ((V.agg [(V.int .i64 r14.1),(V.inl Zc []),(V.inl Zc r93.1),(V.int .i64 0)]),(Zb r93.2))
   else bif (decide (r14.1=4)) then
    Option.bind (Zh (Zb r93.2) 2) fun r113=>
    some ((V.agg [(V.int .i64 r14.1),(V.inl Zc []),(V.inl Zc r93.1),(V.int .i64 r113.1)]),(Zb r113.2))
   else bif (decide (r14.1=2)) then
    Option.bind (Zh (Zb r93.2) (IntKind.i64.wrap (index+1))) fun r114=>
    Option.bind (Zh (Zb r114.2) 2) fun r115=>
    some ((V.agg [(V.int .i64 r14.1),(V.inl Zc []),(V.inl Zc r93.1),(V.int .i64 (IntKind.i64.wrap (r114.1*r115.1)))]),(Zb r115.2))
   else bif (decide (r14.1=5)) then
    Option.bind (Zh (Zb r93.2) 4) fun r116=>
    bif (decide ((0:Int)<index)) then
     Option.bind (Zh (Zb r116.2) index) fun r117=>
     some ((V.agg [(V.int .i64 r14.1),(V.inl Zc []),(V.inl Zc r93.1),(V.int .i64 (IntKind.i64.wrap (1+r117.1)))]),(Zb r117.2))
    else some ((V.agg [(V.int .i64 r14.1),(V.inl Zc []),(V.inl Zc r93.1),(V.int .i64 (IntKind.i64.wrap (1+r116.1)))]),(Zb r116.2))
   else bif (decide (r14.1=6)) then
    Option.bind (Zh (Zb r93.2) 4) fun r118=>
    bif (decide ((0:Int)<index)) then
     Option.bind (Zh (Zb r118.2) index) fun r119=>
     some ((V.agg [(V.int .i64 r14.1),(V.inl Zc []),(V.inl Zc r93.1),(V.int .i64 (IntKind.i64.wrap (1+r119.1)))]),(Zb r119.2))
    else some ((V.agg [(V.int .i64 r14.1),(V.inl Zc []),(V.inl Zc r93.1),(V.int .i64 (IntKind.i64.wrap (1+r118.1)))]),(Zb r118.2))
   else bif (decide (r14.1=7)) then
    Option.bind (Zh (Zb r93.2) 4) fun r120=>
    bif (decide ((0:Int)<index)) then
     Option.bind (Zh (Zb r120.2) index) fun r121=>
     some ((V.agg [(V.int .i64 r14.1),(V.inl Zc []),(V.inl Zc r93.1),(V.int .i64 (IntKind.i64.wrap (1+r121.1)))]),(Zb r121.2))
    else some ((V.agg [(V.int .i64 r14.1),(V.inl Zc []),(V.inl Zc r93.1),(V.int .i64 (IntKind.i64.wrap (1+r120.1)))]),(Zb r120.2))
   else some ((V.agg [(V.int .i64 r14.1),(V.inl Zc []),(V.inl Zc r93.1),(V.int .i64 0)]),(Zb r93.2))
  else bif (decide (r14.1=4)) then
   Option.bind (Zh (Zb r93.2) 2) fun r122=>
   some ((V.agg [(V.int .i64 r14.1),(V.inl Zc []),(V.inl Zc r93.1),(V.int .i64 r122.1)]),(Zb r122.2))
  else bif (decide (r14.1=2)) then
   Option.bind (Zh (Zb r93.2) (IntKind.i64.wrap (index+1))) fun r123=>
   Option.bind (Zh (Zb r123.2) 2) fun r124=>
   some ((V.agg [(V.int .i64 r14.1),(V.inl Zc []),(V.inl Zc r93.1),(V.int .i64 (IntKind.i64.wrap (r123.1*r124.1)))]),(Zb r124.2))
  else bif (decide (r14.1=5)) then
   Option.bind (Zh (Zb r93.2) 4) fun r125=>
   bif (decide ((0:Int)<index)) then
    Option.bind (Zh (Zb r125.2) index) fun r126=>
    some ((V.agg [(V.int .i64 r14.1),(V.inl Zc []),(V.inl Zc r93.1),(V.int .i64 (IntKind.i64.wrap (1+r126.1)))]),(Zb r126.2))
   else some ((V.agg [(V.int .i64 r14.1),(V.inl Zc []),(V.inl Zc r93.1),(V.int .i64 (IntKind.i64.wrap (1+r125.1)))]),(Zb r125.2))
  else bif (decide (r14.1=6)) then
   Option.bind (Zh (Zb r93.2) 4) fun r127=>
   bif (decide ((0:Int)<index)) then
    Option.bind (Zh (Zb r127.2) index) fun r128=>
    some ((V.agg [(V.int .i64 r14.1),(V.inl Zc []),(V.inl Zc r93.1),(V.int .i64 (IntKind.i64.wrap (1+r128.1)))]),(Zb r128.2))
   else some ((V.agg [(V.int .i64 r14.1),(V.inl Zc []),(V.inl Zc r93.1),(V.int .i64 (IntKind.i64.wrap (1+r127.1)))]),(Zb r127.2))
  else bif (decide (r14.1=7)) then
   Option.bind (Zh (Zb r93.2) 4) fun r129=>
   bif (decide ((0:Int)<index)) then
    Option.bind (Zh (Zb r129.2) index) fun r130=>
    some ((V.agg [(V.int .i64 r14.1),(V.inl Zc []),(V.inl Zc r93.1),(V.int .i64 (IntKind.i64.wrap (1+r130.1)))]),(Zb r130.2))
   else some ((V.agg [(V.int .i64 r14.1),(V.inl Zc []),(V.inl Zc r93.1),(V.int .i64 (IntKind.i64.wrap (1+r129.1)))]),(Zb r129.2))
  else some ((V.agg [(V.int .i64 r14.1),(V.inl Zc []),(V.inl Zc r93.1),(V.int .i64 0)]),(Zb r93.2))
 else bif (!(decide (r14.1=0))) then
  bif (!(decide (r14.1=4))) then
   bif (!(decide (r14.1=5))) then
    Option.bind (Za7 (Zb r14.2)) fun r131=>
    bif (decide (r14.1=4)) then
     Option.bind (Zh (Zb r131.2) 2) fun r132=>
     some ((V.agg [(V.int .i64 r14.1),(V.inl Zc r131.1),(V.inl Zc []),(V.int .i64 r132.1)]),(Zb r132.2))
    else bif (decide (r14.1=2)) then
     Option.bind (Zh (Zb r131.2) (IntKind.i64.wrap (index+1))) fun r133=>
     Option.bind (Zh (Zb r133.2) 2) fun r134=>
     some ((V.agg [(V.int .i64 r14.1),(V.inl Zc r131.1),(V.inl Zc []),(V.int .i64 (IntKind.i64.wrap (r133.1*r134.1)))]),(Zb r134.2))
    else bif (decide (r14.1=5)) then
     Option.bind (Zh (Zb r131.2) 4) fun r135=>
     bif (decide ((0:Int)<index)) then
      Option.bind (Zh (Zb r135.2) index) fun r136=>
      some ((V.agg [(V.int .i64 r14.1),(V.inl Zc r131.1),(V.inl Zc []),(V.int .i64 (IntKind.i64.wrap (1+r136.1)))]),(Zb r136.2))
     else some ((V.agg [(V.int .i64 r14.1),(V.inl Zc r131.1),(V.inl Zc []),(V.int .i64 (IntKind.i64.wrap (1+r135.1)))]),(Zb r135.2))
    else bif (decide (r14.1=6)) then
     Option.bind (Zh (Zb r131.2) 4) fun r137=>
     bif (decide ((0:Int)<index)) then
      Option.bind (Zh (Zb r137.2) index) fun r138=>
      some ((V.agg [(V.int .i64 r14.1),(V.inl Zc r131.1),(V.inl Zc []),(V.int .i64 (IntKind.i64.wrap (1+r138.1)))]),(Zb r138.2))
     else some ((V.agg [(V.int .i64 r14.1),(V.inl Zc r131.1),(V.inl Zc []),(V.int .i64 (IntKind.i64.wrap (1+r137.1)))]),(Zb r137.2))
    else bif (decide (r14.1=7)) then
     Option.bind (Zh (Zb r131.2) 4) fun r139=>
     bif (decide ((0:Int)<index)) then
      Option.bind (Zh (Zb r139.2) index) fun r140=>
      some ((V.agg [(V.int .i64 r14.1),(V.inl Zc r131.1),(V.inl Zc []),(V.int .i64 (IntKind.i64.wrap (1+r140.1)))]),(Zb r140.2))
     else some ((V.agg [(V.int .i64 r14.1),(V.inl Zc r131.1),(V.inl Zc []),(V.int .i64 (IntKind.i64.wrap (1+r139.1)))]),(Zb r139.2))
    else some ((V.agg [(V.int .i64 r14.1),(V.inl Zc r131.1),(V.inl Zc []),(V.int .i64 0)]),(Zb r131.2))
   else bif (decide (r14.1=4)) then
    Option.bind (Zh (Zb r14.2) 2) fun r141=>
    some ((V.agg [(V.int .i64 r14.1),(V.inl Zc []),(V.inl Zc []),(V.int .i64 r141.1)]),(Zb r141.2))
   else bif (decide (r14.1=2)) then
    Option.bind (Zh (Zb r14.2) (IntKind.i64.wrap (index+1))) fun r142=>
    Option.bind (Zh (Zb r142.2) 2) fun r143=>
    some ((V.agg [(V.int .i64 r14.1),(V.inl Zc []),(V.inl Zc []),(V.int .i64 (IntKind.i64.wrap (r142.1*r143.1)))]),(Zb r143.2))
   else bif (decide (r14.1=5)) then
    Option.bind (Zh (Zb r14.2) 4) fun r144=>
    bif (decide ((0:Int)<index)) then
     Option.bind (Zh (Zb r144.2) index) fun r145=>
     some ((V.agg [(V.int .i64 r14.1),(V.inl Zc []),(V.inl Zc []),(V.int .i64 (IntKind.i64.wrap (1+r145.1)))]),(Zb r145.2))
    else some ((V.agg [(V.int .i64 r14.1),(V.inl Zc []),(V.inl Zc []),(V.int .i64 (IntKind.i64.wrap (1+r144.1)))]),(Zb r144.2))
   else bif (decide (r14.1=6)) then
    Option.bind (Zh (Zb r14.2) 4) fun r146=>
    bif (decide ((0:Int)<index)) then
     Option.bind (Zh (Zb r146.2) index) fun r147=>
     some ((V.agg [(V.int .i64 r14.1),(V.inl Zc []),(V.inl Zc []),(V.int .i64 (IntKind.i64.wrap (1+r147.1)))]),(Zb r147.2))
    else some ((V.agg [(V.int .i64 r14.1),(V.inl Zc []),(V.inl Zc []),(V.int .i64 (IntKind.i64.wrap (1+r146.1)))]),(Zb r146.2))
   else bif (decide (r14.1=7)) then
    Option.bind (Zh (Zb r14.2) 4) fun r148=>
    bif (decide ((0:Int)<index)) then
     Option.bind (Zh (Zb r148.2) index) fun r149=>
     some ((V.agg [(V.int .i64 r14.1),(V.inl Zc []),(V.inl Zc []),(V.int .i64 (IntKind.i64.wrap (1+r149.1)))]),(Zb r149.2))
    else some ((V.agg [(V.int .i64 r14.1),(V.inl Zc []),(V.inl Zc []),(V.int .i64 (IntKind.i64.wrap (1+r148.1)))]),(Zb r148.2))
   else some ((V.agg [(V.int .i64 r14.1),(V.inl Zc []),(V.inl Zc []),(V.int .i64 0)]),(Zb r14.2))
  else bif (decide (r14.1=4)) then
   Option.bind (Zh (Zb r14.2) 2) fun r150=>
   some ((V.agg [(V.int .i64 r14.1),(V.inl Zc []),(V.inl Zc []),(V.int .i64 r150.1)]),(Zb r150.2))
  else bif (decide (r14.1=2)) then
   Option.bind (Zh (Zb r14.2) (IntKind.i64.wrap (index+1))) fun r151=>
   Option.bind (Zh (Zb r151.2) 2) fun r152=>
   some ((V.agg [(V.int .i64 r14.1),(V.inl Zc []),(V.inl Zc []),(V.int .i64 (IntKind.i64.wrap (r151.1*r152.1)))]),(Zb r152.2))
  else bif (decide (r14.1=5)) then
   Option.bind (Zh (Zb r14.2) 4) fun r153=>
   bif (decide ((0:Int)<index)) then
    Option.bind (Zh (Zb r153.2) index) fun r154=>
    some ((V.agg [(V.int .i64 r14.1),(V.inl Zc []),(V.inl Zc []),(V.int .i64 (IntKind.i64.wrap (1+r154.1)))]),(Zb r154.2))
   else some ((V.agg [(V.int .i64 r14.1),(V.inl Zc []),(V.inl Zc []),(V.int .i64 (IntKind.i64.wrap (1+r153.1)))]),(Zb r153.2))
  else bif (decide (r14.1=6)) then
   Option.bind (Zh (Zb r14.2) 4) fun r155=>
   bif (decide ((0:Int)<index)) then
    Option.bind (Zh (Zb r155.2) index) fun r156=>
    some ((V.agg [(V.int .i64 r14.1),(V.inl Zc []),(V.inl Zc []),(V.int .i64 (IntKind.i64.wrap (1+r156.1)))]),(Zb r156.2))
   else some ((V.agg [(V.int .i64 r14.1),(V.inl Zc []),(V.inl Zc []),(V.int .i64 (IntKind.i64.wrap (1+r155.1)))]),(Zb r155.2))
  else bif (decide (r14.1=7)) then
   Option.bind (Zh (Zb r14.2) 4) fun r157=>
   bif (decide ((0:Int)<index)) then
    Option.bind (Zh (Zb r157.2) index) fun r158=>
    some ((V.agg [(V.int .i64 r14.1),(V.inl Zc []),(V.inl Zc []),(V.int .i64 (IntKind.i64.wrap (1+r158.1)))]),(Zb r158.2))
   else some ((V.agg [(V.int .i64 r14.1),(V.inl Zc []),(V.inl Zc []),(V.int .i64 (IntKind.i64.wrap (1+r157.1)))]),(Zb r157.2))
  else some ((V.agg [(V.int .i64 r14.1),(V.inl Zc []),(V.inl Zc []),(V.int .i64 0)]),(Zb r14.2))
 else bif (decide (r14.1=4)) then
  Option.bind (Zh (Zb r14.2) 2) fun r159=>
  some ((V.agg [(V.int .i64 r14.1),(V.inl Zc []),(V.inl Zc []),(V.int .i64 r159.1)]),(Zb r159.2))
 else bif (decide (r14.1=2)) then
  Option.bind (Zh (Zb r14.2) (IntKind.i64.wrap (index+1))) fun r160=>
  Option.bind (Zh (Zb r160.2) 2) fun r161=>
  some ((V.agg [(V.int .i64 r14.1),(V.inl Zc []),(V.inl Zc []),(V.int .i64 (IntKind.i64.wrap (r160.1*r161.1)))]),(Zb r161.2))
 else bif (decide (r14.1=5)) then
  Option.bind (Zh (Zb r14.2) 4) fun r162=>
  bif (decide ((0:Int)<index)) then
   Option.bind (Zh (Zb r162.2) index) fun r163=>
   some ((V.agg [(V.int .i64 r14.1),(V.inl Zc []),(V.inl Zc []),(V.int .i64 (IntKind.i64.wrap (1+r163.1)))]),(Zb r163.2))
  else some ((V.agg [(V.int .i64 r14.1),(V.inl Zc []),(V.inl Zc []),(V.int .i64 (IntKind.i64.wrap (1+r162.1)))]),(Zb r162.2))
 else bif (decide (r14.1=6)) then
  Option.bind (Zh (Zb r14.2) 4) fun r164=>
  bif (decide ((0:Int)<index)) then
   Option.bind (Zh (Zb r164.2) index) fun r165=>
   some ((V.agg [(V.int .i64 r14.1),(V.inl Zc []),(V.inl Zc []),(V.int .i64 (IntKind.i64.wrap (1+r165.1)))]),(Zb r165.2))
  else some ((V.agg [(V.int .i64 r14.1),(V.inl Zc []),(V.inl Zc []),(V.int .i64 (IntKind.i64.wrap (1+r164.1)))]),(Zb r164.2))
 else bif (decide (r14.1=7)) then
  Option.bind (Zh (Zb r14.2) 4) fun r166=>
  bif (decide ((0:Int)<index)) then
   Option.bind (Zh (Zb r166.2) index) fun r167=>
   some ((V.agg [(V.int .i64 r14.1),(V.inl Zc []),(V.inl Zc []),(V.int .i64 (IntKind.i64.wrap (1+r167.1)))]),(Zb r167.2))
  else some ((V.agg [(V.int .i64 r14.1),(V.inl Zc []),(V.inl Zc []),(V.int .i64 (IntKind.i64.wrap (1+r166.1)))]),(Zb r166.2))
 else some ((V.agg [(V.int .i64 r14.1),(V.inl Zc []),(V.inl Zc []),(V.int .i64 0)]),(Zb r14.2))
def ZY (c:V) (n:Int):Option (Bool×V):=
 Option.bind (Zh (Zb c) n) fun r169=>
 some ((decide (r169.1=0)),(Zb r169.2))
def Zey (c:V):Option (V×V):=
 Option.bind (ZfC (Zb c) 6) fun r168=>
 Option.bind (ZY (Zb r168.2) 6) fun r170=>
 bif r170.1 then
  Option.bind (Zh (Zb r170.2) 4) fun r171=>
  bif (decide (r171.1=0)) then
   Option.bind (ZN (Zb r171.2) [(V.int .i64 (-1)),(V.int .i64 8),(V.int .i64 0),(V.int .i64 2)]) fun r172=>
   some ((V.agg [(V.int .i64 r172.1),(V.inl Zc (gl r168.1 1)),(V.inl Zc (gl r168.1 2)),(V.int .i64 (gi r168.1 3))]),(Zb r172.2))
  else bif (decide (r171.1=1)) then
   bif ((Zv (((gl r168.1 1).length)+1) 1)&&true) then
    some ((V.agg [(V.int .i64 (gi r168.1 0)),(V.inl Zc ((gl r168.1 1)++[(V.int .u8 65)])),(V.inl Zc (gl r168.1 2)),(V.int .i64 (gi r168.1 3))]),(Zb r171.2))
   else none
  else bif (decide (r171.1=2)) then
   Option.bind (Zh (Zb r171.2) 2) fun r173=>
   bif (((decide ((0:Int)≤(IntKind.i64.wrap (20+r173.1))))&&decide ((IntKind.i64.wrap (20+r173.1))=(IntKind.i64.wrap (20+r173.1))))&&(Zv ((IntKind.i64.wrap (20+r173.1)).toNat) 1)) then
    some ((V.agg [(V.int .i64 (gi r168.1 0)),(V.inl Zc (gl r168.1 1)),(V.inl Zc (List.replicate ((IntKind.i64.wrap (20+r173.1)).toNat) (V.int .u8 0))),(V.int .i64 (gi r168.1 3))]),(Zb r173.2))
   else none
  else Option.bind (ZN (Zb r171.2) [(V.int .i64 (-1)),(V.int .i64 0),(V.int .i64 1),(V.int .i64 2),(V.int .i64 1000000),(V.int .i64 1000001)]) fun r174=>
  some ((V.agg [(V.int .i64 (gi r168.1 0)),(V.inl Zc (gl r168.1 1)),(V.inl Zc (gl r168.1 2)),(V.int .i64 r174.1)]),(Zb r174.2))
 else some ((ZpP r168.1),(Zb r170.2))
def Zcx (c:V):Option (V×V):=
 Option.bind (Zh (Zb c) 4) fun r11=>
 Option.bind (Zh (Zb r11.2) 25) fun r12=>
 Option.bind (Zey (Zb r12.2)) fun r175=>
 Option.bind (ZY (Zb r175.2) 8) fun r176=>
 bif r176.1 then
  Option.bind (ZY (Zb r176.2) 10) fun r177=>
  bif r177.1 then
   Option.bind (ZN (Zb r177.2) [(V.int .i64 (-1)),(V.int .i64 0),(V.int .i64 1),(V.int .i64 1000000),(V.int .i64 1000001)]) fun r178=>
   Option.bind (ZY (Zb r178.2) 20) fun r179=>
   bif r179.1 then
    Option.bind (ZN (Zb r179.2) [(V.int .i64 (-2)),(V.int .i64 (-1)),(V.int .i64 3),(V.int .i64 4)]) fun r180=>
    some ((V.agg [(V.int .i64 r180.1),(V.int .i64 r178.1),(V.int .i64 0),(V.inl Zc []),(V.inl Zc []),(V.int .i64 0)]),(Zb r180.2))
   else some ((V.agg [(V.int .i64 (-1)),(V.int .i64 r178.1),(V.int .i64 0),(V.inl Zc []),(V.inl Zc []),(V.int .i64 0)]),(Zb r179.2))
  else Option.bind (ZY (Zb r177.2) 20) fun r181=>
  bif r181.1 then
   Option.bind (ZN (Zb r181.2) [(V.int .i64 (-2)),(V.int .i64 (-1)),(V.int .i64 3),(V.int .i64 4)]) fun r182=>
   some ((V.agg [(V.int .i64 r182.1),(V.int .i64 0),(V.int .i64 0),(V.inl Zc []),(V.inl Zc []),(V.int .i64 0)]),(Zb r182.2))
  else some ((V.agg [(V.int .i64 (-1)),(V.int .i64 0),(V.int .i64 0),(V.inl Zc []),(V.inl Zc []),(V.int .i64 0)]),(Zb r181.2))
 else Option.bind (ZY (Zb r176.2) 10) fun r183=>
 bif r183.1 then
  Option.bind (ZN (Zb r183.2) [(V.int .i64 (-1)),(V.int .i64 0),(V.int .i64 1),(V.int .i64 1000000),(V.int .i64 1000001)]) fun r184=>
  Option.bind (ZY (Zb r184.2) 20) fun r185=>
  bif r185.1 then
   Option.bind (ZN (Zb r185.2) [(V.int .i64 (-2)),(V.int .i64 (-1)),(V.int .i64 3),(V.int .i64 4)]) fun r186=>
   some ((V.agg [(V.int .i64 r186.1),(V.int .i64 r184.1),(V.int .i64 (gi r175.1 0)),(V.inl Zc (gl r175.1 1)),(V.inl Zc (gl r175.1 2)),(V.int .i64 (gi r175.1 3))]),(Zb r186.2))
  else some ((V.agg [(V.int .i64 r11.1),(V.int .i64 r184.1),(V.int .i64 (gi r175.1 0)),(V.inl Zc (gl r175.1 1)),(V.inl Zc (gl r175.1 2)),(V.int .i64 (gi r175.1 3))]),(Zb r185.2))
 else Option.bind (ZY (Zb r183.2) 20) fun r187=>
 bif r187.1 then
  Option.bind (ZN (Zb r187.2) [(V.int .i64 (-2)),(V.int .i64 (-1)),(V.int .i64 3),(V.int .i64 4)]) fun r188=>
  some ((V.agg [(V.int .i64 r188.1),(V.int .i64 (IntKind.i64.wrap (1+r12.1))),(V.int .i64 (gi r175.1 0)),(V.inl Zc (gl r175.1 1)),(V.inl Zc (gl r175.1 2)),(V.int .i64 (gi r175.1 3))]),(Zb r188.2))
 else some ((V.agg [(V.int .i64 r11.1),(V.int .i64 (IntKind.i64.wrap (1+r12.1))),(V.int .i64 (gi r175.1 0)),(V.inl Zc (gl r175.1 1)),(V.inl Zc (gl r175.1 2)),(V.int .i64 (gi r175.1 3))]),(Zb r187.2))
def ZhP (b:List V):Bool:=
 (decide (((b.length:Nat):Int)≤20))
def Zgs (n:Int):Bool:=
 bif (decide ((0:Int)≤n)) then
  (decide (n≤1000000))
 else false
def ZbB:Nat→List V→Int→Option (Nat×Bool)
 | 0,_,_=>none
 | k_+1,b0,i3=>
  bif (decide (i3<((b0.length:Nat):Int))) then
   bif (Zn i3 b0.length) then
    bif (decide ((gi (rd b0 i3.toNat) 0)<97)) then
     bif (Zn i3 b0.length) then
      bif (!(decide ((gi (rd b0 i3.toNat) 0)=47))) then
       some (0,false)
      else ZbB k_ b0 (IntKind.i64.wrap (i3+1))
     else none
    else bif (Zn i3 b0.length) then
     bif (decide ((122:Int)<(gi (rd b0 i3.toNat) 0))) then
      bif (Zn i3 b0.length) then
       bif (!(decide ((gi (rd b0 i3.toNat) 0)=47))) then
        some (0,false)
       else ZbB k_ b0 (IntKind.i64.wrap (i3+1))
      else none
     else ZbB k_ b0 (IntKind.i64.wrap (i3+1))
    else none
   else none
  else some (1,false)
def Zc1 (b:List V):Option (Bool):=
 bif (decide (((b.length:Nat):Int)<1)) then
  some false
 else bif (decide ((20:Int)<((b.length:Nat):Int))) then
  some false
 else Option.bind (ZbB ((((b.length:Nat):Int)-0).toNat+1) b 0) fun r190=>
 bif (Nat.beq r190.1 0) then
  some r190.2
 else some true
def ZfD (o:V):Option (Bool):=
 bif (decide ((gi o 0)<0)) then
  some false
 else bif (decide ((7:Int)<(gi o 0))) then
  some false
 else bif (!(ZhP (gl o 2))) then
  some false
 else bif (!(Zgs (gi o 3))) then
  some false
 else bif (decide ((gi o 0)=1)) then
  Option.bind (Zc1 (gl o 1)) fun r191=>
  bif (!r191) then
   some false
  else bif (decide ((gi o 0)=1)) then
   bif (decide ((gi o 0)=0)) then
    some (decide ((gi o 3)=0))
   else bif (decide ((gi o 0)=1)) then
    some (decide ((gi o 3)=0))
   else bif (decide ((gi o 0)=3)) then
    some (decide ((gi o 3)=0))
   else bif (decide ((gi o 0)=4)) then
    some (decide ((gi o 3)≤1))
   else bif (decide ((gi o 0)=2)) then
    some true
   else some (decide ((1:Int)≤(gi o 3)))
  else bif (decide ((gi o 0)=2)) then
   bif (decide ((gi o 0)=0)) then
    some (decide ((gi o 3)=0))
   else bif (decide ((gi o 0)=1)) then
    some (decide ((gi o 3)=0))
   else bif (decide ((gi o 0)=3)) then
    some (decide ((gi o 3)=0))
   else bif (decide ((gi o 0)=4)) then
    some (decide ((gi o 3)≤1))
   else bif (decide ((gi o 0)=2)) then
    some true
   else some (decide ((1:Int)≤(gi o 3)))
  else bif (!(decide ((gi o 0)=6))) then
   bif (decide ((0:Int)<(((gl o 2).length:Nat):Int))) then
    some false
   else bif (decide ((gi o 0)=0)) then
    some (decide ((gi o 3)=0))
   else bif (decide ((gi o 0)=1)) then
    some (decide ((gi o 3)=0))
   else bif (decide ((gi o 0)=3)) then
    some (decide ((gi o 3)=0))
   else bif (decide ((gi o 0)=4)) then
    some (decide ((gi o 3)≤1))
   else bif (decide ((gi o 0)=2)) then
    some true
   else some (decide ((1:Int)≤(gi o 3)))
  else bif (decide ((gi o 0)=0)) then
   some (decide ((gi o 3)=0))
  else bif (decide ((gi o 0)=1)) then
   some (decide ((gi o 3)=0))
  else bif (decide ((gi o 0)=3)) then
   some (decide ((gi o 3)=0))
  else bif (decide ((gi o 0)=4)) then
   some (decide ((gi o 3)≤1))
  else bif (decide ((gi o 0)=2)) then
   some true
  else some (decide ((1:Int)≤(gi o 3)))
 else bif (decide ((gi o 0)=2)) then
  Option.bind (Zc1 (gl o 1)) fun r192=>
  bif (!r192) then
   some false
  else bif (decide ((gi o 0)=1)) then
   bif (decide ((gi o 0)=0)) then
    some (decide ((gi o 3)=0))
   else bif (decide ((gi o 0)=1)) then
    some (decide ((gi o 3)=0))
   else bif (decide ((gi o 0)=3)) then
    some (decide ((gi o 3)=0))
   else bif (decide ((gi o 0)=4)) then
    some (decide ((gi o 3)≤1))
   else bif (decide ((gi o 0)=2)) then
    some true
   else some (decide ((1:Int)≤(gi o 3)))
  else bif (decide ((gi o 0)=2)) then
   bif (decide ((gi o 0)=0)) then
    some (decide ((gi o 3)=0))
   else bif (decide ((gi o 0)=1)) then
    some (decide ((gi o 3)=0))
   else bif (decide ((gi o 0)=3)) then
    some (decide ((gi o 3)=0))
   else bif (decide ((gi o 0)=4)) then
    some (decide ((gi o 3)≤1))
   else bif (decide ((gi o 0)=2)) then
    some true
   else some (decide ((1:Int)≤(gi o 3)))
  else bif (!(decide ((gi o 0)=6))) then
   bif (decide ((0:Int)<(((gl o 2).length:Nat):Int))) then
    some false
   else bif (decide ((gi o 0)=0)) then
    some (decide ((gi o 3)=0))
   else bif (decide ((gi o 0)=1)) then
    some (decide ((gi o 3)=0))
   else bif (decide ((gi o 0)=3)) then
    some (decide ((gi o 3)=0))
   else bif (decide ((gi o 0)=4)) then
    some (decide ((gi o 3)≤1))
   else bif (decide ((gi o 0)=2)) then
    some true
   else some (decide ((1:Int)≤(gi o 3)))
  else bif (decide ((gi o 0)=0)) then
   some (decide ((gi o 3)=0))
  else bif (decide ((gi o 0)=1)) then
   some (decide ((gi o 3)=0))
  else bif (decide ((gi o 0)=3)) then
   some (decide ((gi o 3)=0))
  else bif (decide ((gi o 0)=4)) then
   some (decide ((gi o 3)≤1))
  else bif (decide ((gi o 0)=2)) then
   some true
  else some (decide ((1:Int)≤(gi o 3)))
 else bif (decide ((gi o 0)=3)) then
  Option.bind (Zc1 (gl o 1)) fun r193=>
  bif (!r193) then
   some false
  else bif (decide ((gi o 0)=1)) then
   bif (decide ((gi o 0)=0)) then
    some (decide ((gi o 3)=0))
   else bif (decide ((gi o 0)=1)) then
    some (decide ((gi o 3)=0))
   else bif (decide ((gi o 0)=3)) then
    some (decide ((gi o 3)=0))
   else bif (decide ((gi o 0)=4)) then
    some (decide ((gi o 3)≤1))
   else bif (decide ((gi o 0)=2)) then
    some true
   else some (decide ((1:Int)≤(gi o 3)))
  else bif (decide ((gi o 0)=2)) then
   bif (decide ((gi o 0)=0)) then
    some (decide ((gi o 3)=0))
   else bif (decide ((gi o 0)=1)) then
    some (decide ((gi o 3)=0))
   else bif (decide ((gi o 0)=3)) then
    some (decide ((gi o 3)=0))
   else bif (decide ((gi o 0)=4)) then
    some (decide ((gi o 3)≤1))
   else bif (decide ((gi o 0)=2)) then
    some true
   else some (decide ((1:Int)≤(gi o 3)))
  else bif (!(decide ((gi o 0)=6))) then
   bif (decide ((0:Int)<(((gl o 2).length:Nat):Int))) then
    some false
   else bif (decide ((gi o 0)=0)) then
    some (decide ((gi o 3)=0))
   else bif (decide ((gi o 0)=1)) then
    some (decide ((gi o 3)=0))
   else bif (decide ((gi o 0)=3)) then
    some (decide ((gi o 3)=0))
   else bif (decide ((gi o 0)=4)) then
    some (decide ((gi o 3)≤1))
   else bif (decide ((gi o 0)=2)) then
    some true
   else some (decide ((1:Int)≤(gi o 3)))
  else bif (decide ((gi o 0)=0)) then
   some (decide ((gi o 3)=0))
  else bif (decide ((gi o 0)=1)) then
   some (decide ((gi o 3)=0))
  else bif (decide ((gi o 0)=3)) then
   some (decide ((gi o 3)=0))
  else bif (decide ((gi o 0)=4)) then
   some (decide ((gi o 3)≤1))
  else bif (decide ((gi o 0)=2)) then
   some true
  else some (decide ((1:Int)≤(gi o 3)))
 else bif (decide ((gi o 0)=6)) then
  Option.bind (Zc1 (gl o 1)) fun r194=>
  bif (!r194) then
   some false
  else bif (decide ((gi o 0)=1)) then
   bif (decide ((gi o 0)=0)) then
    some (decide ((gi o 3)=0))
   else bif (decide ((gi o 0)=1)) then
    some (decide ((gi o 3)=0))
   else bif (decide ((gi o 0)=3)) then
    some (decide ((gi o 3)=0))
   else bif (decide ((gi o 0)=4)) then
    some (decide ((gi o 3)≤1))
   else bif (decide ((gi o 0)=2)) then
    some true
   else some (decide ((1:Int)≤(gi o 3)))
  else bif (decide ((gi o 0)=2)) then
   bif (decide ((gi o 0)=0)) then
    some (decide ((gi o 3)=0))
   else bif (decide ((gi o 0)=1)) then
    some (decide ((gi o 3)=0))
   else bif (decide ((gi o 0)=3)) then
    some (decide ((gi o 3)=0))
   else bif (decide ((gi o 0)=4)) then
    some (decide ((gi o 3)≤1))
   else bif (decide ((gi o 0)=2)) then
    some true
   else some (decide ((1:Int)≤(gi o 3)))
  else bif (!(decide ((gi o 0)=6))) then
   bif (decide ((0:Int)<(((gl o 2).length:Nat):Int))) then
    some false
   else bif (decide ((gi o 0)=0)) then
    some (decide ((gi o 3)=0))
   else bif (decide ((gi o 0)=1)) then
    some (decide ((gi o 3)=0))
   else bif (decide ((gi o 0)=3)) then
    some (decide ((gi o 3)=0))
   else bif (decide ((gi o 0)=4)) then
    some (decide ((gi o 3)≤1))
   else bif (decide ((gi o 0)=2)) then
    some true
   else some (decide ((1:Int)≤(gi o 3)))
  else bif (decide ((gi o 0)=0)) then
   some (decide ((gi o 3)=0))
  else bif (decide ((gi o 0)=1)) then
   some (decide ((gi o 3)=0))
  else bif (decide ((gi o 0)=3)) then
   some (decide ((gi o 3)=0))
  else bif (decide ((gi o 0)=4)) then
   some (decide ((gi o 3)≤1))
  else bif (decide ((gi o 0)=2)) then
   some true
  else some (decide ((1:Int)≤(gi o 3)))
 else bif (decide ((gi o 0)=7)) then
  Option.bind (Zc1 (gl o 1)) fun r195=>
  bif (!r195) then
   some false
  else bif (!(decide ((gi o 0)=7))) then
   bif (decide ((0:Int)<(((gl o 1).length:Nat):Int))) then
    some false
   else bif (decide ((gi o 0)=1)) then
    bif (decide ((gi o 0)=0)) then
     some (decide ((gi o 3)=0))
    else bif (decide ((gi o 0)=1)) then
     some (decide ((gi o 3)=0))
    else bif (decide ((gi o 0)=3)) then
     some (decide ((gi o 3)=0))
    else bif (decide ((gi o 0)=4)) then
     some (decide ((gi o 3)≤1))
    else bif (decide ((gi o 0)=2)) then
     some true
    else some (decide ((1:Int)≤(gi o 3)))
   else bif (decide ((gi o 0)=2)) then
    bif (decide ((gi o 0)=0)) then
     some (decide ((gi o 3)=0))
    else bif (decide ((gi o 0)=1)) then
     some (decide ((gi o 3)=0))
    else bif (decide ((gi o 0)=3)) then
     some (decide ((gi o 3)=0))
    else bif (decide ((gi o 0)=4)) then
     some (decide ((gi o 3)≤1))
    else bif (decide ((gi o 0)=2)) then
     some true
    else some (decide ((1:Int)≤(gi o 3)))
   else bif (!(decide ((gi o 0)=6))) then
    bif (decide ((0:Int)<(((gl o 2).length:Nat):Int))) then
     some false
    else bif (decide ((gi o 0)=0)) then
     some (decide ((gi o 3)=0))
    else bif (decide ((gi o 0)=1)) then
     some (decide ((gi o 3)=0))
    else bif (decide ((gi o 0)=3)) then
     some (decide ((gi o 3)=0))
    else bif (decide ((gi o 0)=4)) then
     some (decide ((gi o 3)≤1))
    else bif (decide ((gi o 0)=2)) then
     some true
    else some (decide ((1:Int)≤(gi o 3)))
   else bif (decide ((gi o 0)=0)) then
    some (decide ((gi o 3)=0))
   else bif (decide ((gi o 0)=1)) then
    some (decide ((gi o 3)=0))
   else bif (decide ((gi o 0)=3)) then
    some (decide ((gi o 3)=0))
   else bif (decide ((gi o 0)=4)) then
    some (decide ((gi o 3)≤1))
   else bif (decide ((gi o 0)=2)) then
    some true
   else some (decide ((1:Int)≤(gi o 3)))
  else bif (decide ((gi o 0)=1)) then
   bif (decide ((gi o 0)=0)) then
    some (decide ((gi o 3)=0))
   else bif (decide ((gi o 0)=1)) then
    some (decide ((gi o 3)=0))
   else bif (decide ((gi o 0)=3)) then
    some (decide ((gi o 3)=0))
   else bif (decide ((gi o 0)=4)) then
    some (decide ((gi o 3)≤1))
   else bif (decide ((gi o 0)=2)) then
    some true
   else some (decide ((1:Int)≤(gi o 3)))
  else bif (decide ((gi o 0)=2)) then
   bif (decide ((gi o 0)=0)) then
    some (decide ((gi o 3)=0))
   else bif (decide ((gi o 0)=1)) then
    some (decide ((gi o 3)=0))
   else bif (decide ((gi o 0)=3)) then
    some (decide ((gi o 3)=0))
   else bif (decide ((gi o 0)=4)) then
    some (decide ((gi o 3)≤1))
   else bif (decide ((gi o 0)=2)) then
    some true
   else some (decide ((1:Int)≤(gi o 3)))
  else bif (!(decide ((gi o 0)=6))) then
   bif (decide ((0:Int)<(((gl o 2).length:Nat):Int))) then
    some false
   else bif (decide ((gi o 0)=0)) then
    some (decide ((gi o 3)=0))
   else bif (decide ((gi o 0)=1)) then
    some (decide ((gi o 3)=0))
   else bif (decide ((gi o 0)=3)) then
    some (decide ((gi o 3)=0))
   else bif (decide ((gi o 0)=4)) then
    some (decide ((gi o 3)≤1))
   else bif (decide ((gi o 0)=2)) then
    some true
   else some (decide ((1:Int)≤(gi o 3)))
  else bif (decide ((gi o 0)=0)) then
   some (decide ((gi o 3)=0))
  else bif (decide ((gi o 0)=1)) then
   some (decide ((gi o 3)=0))
  else bif (decide ((gi o 0)=3)) then
   some (decide ((gi o 3)=0))
  else bif (decide ((gi o 0)=4)) then
   some (decide ((gi o 3)≤1))
  else bif (decide ((gi o 0)=2)) then
   some true
  else some (decide ((1:Int)≤(gi o 3)))
 else bif (!(decide ((gi o 0)=7))) then
  bif (decide ((0:Int)<(((gl o 1).length:Nat):Int))) then
   some false
  else bif (decide ((gi o 0)=1)) then
   bif (decide ((gi o 0)=0)) then
    some (decide ((gi o 3)=0))
   else bif (decide ((gi o 0)=1)) then
    some (decide ((gi o 3)=0))
   else bif (decide ((gi o 0)=3)) then
    some (decide ((gi o 3)=0))
   else bif (decide ((gi o 0)=4)) then
    some (decide ((gi o 3)≤1))
   else bif (decide ((gi o 0)=2)) then
    some true
   else some (decide ((1:Int)≤(gi o 3)))
  else bif (decide ((gi o 0)=2)) then
   bif (decide ((gi o 0)=0)) then
    some (decide ((gi o 3)=0))
   else bif (decide ((gi o 0)=1)) then
    some (decide ((gi o 3)=0))
   else bif (decide ((gi o 0)=3)) then
    some (decide ((gi o 3)=0))
   else bif (decide ((gi o 0)=4)) then
    some (decide ((gi o 3)≤1))
   else bif (decide ((gi o 0)=2)) then
    some true
   else some (decide ((1:Int)≤(gi o 3)))
  else bif (!(decide ((gi o 0)=6))) then
   bif (decide ((0:Int)<(((gl o 2).length:Nat):Int))) then
    some false
   else bif (decide ((gi o 0)=0)) then
    some (decide ((gi o 3)=0))
   else bif (decide ((gi o 0)=1)) then
    some (decide ((gi o 3)=0))
   else bif (decide ((gi o 0)=3)) then
    some (decide ((gi o 3)=0))
   else bif (decide ((gi o 0)=4)) then
    some (decide ((gi o 3)≤1))
   else bif (decide ((gi o 0)=2)) then
    some true
   else some (decide ((1:Int)≤(gi o 3)))
  else bif (decide ((gi o 0)=0)) then
   some (decide ((gi o 3)=0))
  else bif (decide ((gi o 0)=1)) then
   some (decide ((gi o 3)=0))
  else bif (decide ((gi o 0)=3)) then
   some (decide ((gi o 3)=0))
  else bif (decide ((gi o 0)=4)) then
   some (decide ((gi o 3)≤1))
  else bif (decide ((gi o 0)=2)) then
   some true
  else some (decide ((1:Int)≤(gi o 3)))
 else bif (decide ((gi o 0)=1)) then
  bif (decide ((gi o 0)=0)) then
   some (decide ((gi o 3)=0))
  else bif (decide ((gi o 0)=1)) then
   some (decide ((gi o 3)=0))
  else bif (decide ((gi o 0)=3)) then
   some (decide ((gi o 3)=0))
  else bif (decide ((gi o 0)=4)) then
   some (decide ((gi o 3)≤1))
  else bif (decide ((gi o 0)=2)) then
   some true
  else some (decide ((1:Int)≤(gi o 3)))
 else bif (decide ((gi o 0)=2)) then
  bif (decide ((gi o 0)=0)) then
   some (decide ((gi o 3)=0))
  else bif (decide ((gi o 0)=1)) then
   some (decide ((gi o 3)=0))
  else bif (decide ((gi o 0)=3)) then
   some (decide ((gi o 3)=0))
  else bif (decide ((gi o 0)=4)) then
   some (decide ((gi o 3)≤1))
  else bif (decide ((gi o 0)=2)) then
   some true
  else some (decide ((1:Int)≤(gi o 3)))
 else bif (!(decide ((gi o 0)=6))) then
  bif (decide ((0:Int)<(((gl o 2).length:Nat):Int))) then
   some false
  else bif (decide ((gi o 0)=0)) then
   some (decide ((gi o 3)=0))
  else bif (decide ((gi o 0)=1)) then
   some (decide ((gi o 3)=0))
  else bif (decide ((gi o 0)=3)) then
   some (decide ((gi o 3)=0))
  else bif (decide ((gi o 0)=4)) then
   some (decide ((gi o 3)≤1))
  else bif (decide ((gi o 0)=2)) then
   some true
  else some (decide ((1:Int)≤(gi o 3)))
 else bif (decide ((gi o 0)=0)) then
  some (decide ((gi o 3)=0))
 else bif (decide ((gi o 0)=1)) then
  some (decide ((gi o 3)=0))
 else bif (decide ((gi o 0)=3)) then
  some (decide ((gi o 3)=0))
 else bif (decide ((gi o 0)=4)) then
  some (decide ((gi o 3)≤1))
 else bif (decide ((gi o 0)=2)) then
  some true
 else some (decide ((1:Int)≤(gi o 3)))
def ZdD (c:V):Option (Bool):=
 bif (decide ((gi c 0)=(-1))) then
  bif (decide ((gi c 1)=0)) then
   bif (decide ((gi c 2)=0)) then
    Option.bind (ZfD (V.agg [(V.int .i64 (gi c 2)),(V.inl Zc (gl c 3)),(V.inl Zc (gl c 4)),(V.int .i64 (gi c 5))])) fun r196=>
    some r196
   else some false
  else some false
 else bif (decide ((0:Int)≤(gi c 0))) then
  bif (decide ((gi c 0)<4)) then
   bif (decide ((1:Int)≤(gi c 1))) then
    bif (decide ((gi c 1)≤1000000)) then
     Option.bind (ZfD (V.agg [(V.int .i64 (gi c 2)),(V.inl Zc (gl c 3)),(V.inl Zc (gl c 4)),(V.int .i64 (gi c 5))])) fun r197=>
     some r197
    else some false
   else some false
  else some false
 else some false
def ZaK:Nat→Int→Int→V→List V→Option (List V)
 | 0,_,_,_,_=>none
 | k_+1,n5,i6,b0,r1=>
  bif (decide (i6<n5)) then
   Option.bind (Zcx (Zb b0)) fun r201=>
   Option.bind (ZdD (Zl r201.1)) fun r202=>
   bif r202 then
    bif ((Zv (r1.length+1) 88)&&true) then
     ZaK k_ n5 (IntKind.i64.wrap (i6+1)) (Zb r201.2) (r1++[(V.agg [(V.int .i64 i6),(V.int .i64 (gi r201.1 0)),(V.int .i64 (gi r201.1 1)),(V.int .i64 (gi r201.1 2)),(V.inl Zc (gl r201.1 3)),(V.inl Zc (gl r201.1 4)),(V.int .i64 (gi r201.1 5))])])
    else none
   else Option.bind (ZY (Zb r201.2) 12) fun r203=>
   bif r203.1 then
    bif ((Zv (r1.length+1) 88)&&true) then
     ZaK k_ n5 (IntKind.i64.wrap (i6+1)) (Zb r203.2) (r1++[(V.agg [(V.int .i64 i6),(V.int .i64 (gi r201.1 0)),(V.int .i64 (gi r201.1 1)),(V.int .i64 (gi r201.1 2)),(V.inl Zc (gl r201.1 3)),(V.inl Zc (gl r201.1 4)),(V.int .i64 (gi r201.1 5))])])
    else none
   else ZaK k_ n5 (IntKind.i64.wrap (i6+1)) (Zb r203.2) r1
  else some r1
def ZdY (code:List V):Option (List V):=
 Option.bind (ZdC code) fun r199=>
 Option.bind (Zh (Zb r199) 20) fun r200=>
 Option.bind (ZaK ((r200.1-0).toNat+1) r200.1 0 (Zb r200.2) []) fun r204=>
 some r204
def ZgH:V:=
 (V.agg [(V.int .i64 (-1)),(V.int .i64 0),(V.int .i64 0),(V.inl Zc []),(V.inl Zc []),(V.int .i64 0)])
def Zep (a:List V) (b:List V):Bool:=
 (ZbF (a.map ZaS) (b.map ZaS))
def Zgt (o:V) (p:V):Bool:=
 bif (decide ((gi o 0)=(gi p 0))) then
  bif Zep (gl o 1) (gl p 1) then
   bif Zep (gl o 2) (gl p 2) then
    (decide ((gi o 3)=(gi p 3)))
   else false
  else false
 else false
def Zez (c:V) (d:V):Bool:=
 bif (decide ((gi c 0)=(gi d 0))) then
  bif (decide ((gi c 1)=(gi d 1))) then
   (Zgt (V.agg [(V.int .i64 (gi c 2)),(V.inl Zc (gl c 3)),(V.inl Zc (gl c 4)),(V.int .i64 (gi c 5))]) (V.agg [(V.int .i64 (gi d 2)),(V.inl Zc (gl d 3)),(V.inl Zc (gl d 4)),(V.int .i64 (gi d 5))]))
  else false
 else false
def ZL (n:Int) (low:Int) (high:Int):Bool:=
 bif (decide (low≤n)) then
  (decide (n≤high))
 else false
def ZbC:Nat→List V→List V→Int→Int→Option (Nat×List V×Bool)
 | 0,_,_,_,_=>none
 | k_+1,b0,v5,v6,v7=>
  bif (decide (v7<v6)) then
   bif (Zn v7 v5.length) then
    bif (decide ((gi (rd v5 v7.toNat) 0)<97)) then
     bif (!(decide ((gi (rd v5 v7.toNat) 0)=47))) then
      some (0,b0,false)
     else ZbC k_ b0 v5 v6 (IntKind.i64.wrap (v7+1))
    else bif (decide ((122:Int)<(gi (rd v5 v7.toNat) 0))) then
     bif (!(decide ((gi (rd v5 v7.toNat) 0)=47))) then
      some (0,b0,false)
     else ZbC k_ b0 v5 v6 (IntKind.i64.wrap (v7+1))
    else ZbC k_ b0 v5 v6 (IntKind.i64.wrap (v7+1))
   else none
  else some (1,b0,false)
def Zb7 (b:List V):Option (Bool):=
 Option.bind (ZbC ((((b.length:Nat):Int)-0).toNat+1) b b ((b.length:Nat):Int) 0) fun r206=>
 bif (Nat.beq r206.1 0) then
  some r206.2.2
 else some (ZL ((r206.2.1.length:Nat):Int) 1 20)
def ZcE (b:List V):Bool:=
 (decide (((b.length:Nat):Int)≤20))
def ZgI (o:V):Option (Bool):=
 bif (decide ((gi o 0)=0)) then
  bif ZL (gi o 3) 0 0 then
   bif (decide ((((gl o 1).length:Nat):Int)=0)) then
    some (decide ((((gl o 2).length:Nat):Int)=0))
   else some false
  else some false
 else bif (decide ((gi o 0)=1)) then
  bif ZL (gi o 3) 0 0 then
   Option.bind (Zb7 (gl o 1)) fun r207=>
   bif r207 then
    bif ZcE (gl o 2) then
     some true
    else some false
   else some false
  else some false
 else bif (decide ((gi o 0)=2)) then
  bif ZL (gi o 3) 0 1000000 then
   Option.bind (Zb7 (gl o 1)) fun r208=>
   bif r208 then
    bif ZcE (gl o 2) then
     some true
    else some false
   else some false
  else some false
 else bif (decide ((gi o 0)=3)) then
  bif ZL (gi o 3) 0 0 then
   Option.bind (Zb7 (gl o 1)) fun r209=>
   bif r209 then
    some (decide ((((gl o 2).length:Nat):Int)=0))
   else some false
  else some false
 else bif (decide ((gi o 0)=4)) then
  bif ZL (gi o 3) 0 1 then
   bif (decide ((((gl o 1).length:Nat):Int)=0)) then
    some (decide ((((gl o 2).length:Nat):Int)=0))
   else some false
  else some false
 else bif (decide ((gi o 0)=5)) then
  bif ZL (gi o 3) 1 1000000 then
   bif (decide ((((gl o 1).length:Nat):Int)=0)) then
    some (decide ((((gl o 2).length:Nat):Int)=0))
   else some false
  else some false
 else bif (decide ((gi o 0)=6)) then
  bif ZL (gi o 3) 1 1000000 then
   Option.bind (Zb7 (gl o 1)) fun r210=>
   bif r210 then
    bif ZcE (gl o 2) then
     some true
    else some false
   else some false
  else some false
 else bif (decide ((gi o 0)=7)) then
  bif ZL (gi o 3) 1 1000000 then
   Option.bind (Zb7 (gl o 1)) fun r211=>
   bif r211 then
    some (decide ((((gl o 2).length:Nat):Int)=0))
   else some false
  else some false
 else some false
def Zbd (c:V):Option (Bool):=
 bif Zez (Zl c) (Zl ZgH) then
  some true
 else bif ZL (gi c 0) 0 3 then
  bif ZL (gi c 1) 1 1000000 then
   Option.bind (ZgI (V.agg [(V.int .i64 (gi c 2)),(V.inl Zc (gl c 3)),(V.inl Zc (gl c 4)),(V.int .i64 (gi c 5))])) fun r212=>
   some r212
  else some false
 else some false
def Zcl (l:V) (client:Int):Int:=
 (IntKind.i64.wrap ((gi l 0)-client))
def ZT:Nat→List V→Int→Int→Int→Int→Option (List V×Int×Int×Int)
 | 0,_,_,_,_,_=>none
 | k_+1,x0,target1,n8,i9,j10=>
  bif (decide (i9<j10)) then
   bif (Zn (IntKind.i64.wrap (ZeG .u64 (IntKind.u64.wrap (IntKind.i64.wrap (i9+j10))) 1)) x0.length) then
    bif (decide ((Zcl (Zfp (rd x0 ((IntKind.i64.wrap (ZeG .u64 (IntKind.u64.wrap (IntKind.i64.wrap (i9+j10))) 1)).toNat))) target1)<0)) then
     ZT k_ x0 target1 n8 (IntKind.i64.wrap ((IntKind.i64.wrap (ZeG .u64 (IntKind.u64.wrap (IntKind.i64.wrap (i9+j10))) 1))+1)) j10
    else ZT k_ x0 target1 n8 i9 (IntKind.i64.wrap (ZeG .u64 (IntKind.u64.wrap (IntKind.i64.wrap (i9+j10))) 1))
   else none
  else some (x0,target1,n8,i9)
def ZaZ (x:List V) (target:Int):Option (Int×Bool):=
 Option.bind (ZT ((((x.length:Nat):Int)-0).toNat+1) x target ((x.length:Nat):Int) 0 ((x.length:Nat):Int)) fun r214=>
 bif (decide (r214.2.2.2<r214.2.2.1)) then
  bif (Zn r214.2.2.2 r214.1.length) then
   some (r214.2.2.2,(decide ((Zcl (Zfp (rd r214.1 r214.2.2.2.toNat)) r214.2.1)=0)))
  else none
 else some (r214.2.2.2,false)
def Zcd (s:V) (client:Int):Option (Int×Bool):=
 Option.bind (ZaZ (gl s 5) client) fun r215=>
 some (r215.1,r215.2)
def ZdE (r:V) (key:List V):Int:=
 (Zgq (gl r 0) key)
def ZQ:Nat→List V→List V→Int→Int→Int→Option (List V×List V×Int×Int)
 | 0,_,_,_,_,_=>none
 | k_+1,x0,target1,n8,i9,j10=>
  bif (decide (i9<j10)) then
   bif (Zn (IntKind.i64.wrap (ZeG .u64 (IntKind.u64.wrap (IntKind.i64.wrap (i9+j10))) 1)) x0.length) then
    bif (decide ((ZdE (ZhO (rd x0 ((IntKind.i64.wrap (ZeG .u64 (IntKind.u64.wrap (IntKind.i64.wrap (i9+j10))) 1)).toNat))) target1)<0)) then
     ZQ k_ x0 target1 n8 (IntKind.i64.wrap ((IntKind.i64.wrap (ZeG .u64 (IntKind.u64.wrap (IntKind.i64.wrap (i9+j10))) 1))+1)) j10
    else ZQ k_ x0 target1 n8 i9 (IntKind.i64.wrap (ZeG .u64 (IntKind.u64.wrap (IntKind.i64.wrap (i9+j10))) 1))
   else none
  else some (x0,target1,n8,i9)
def Zbp (x:List V) (target:List V):Option (Int×Bool):=
 Option.bind (ZQ ((((x.length:Nat):Int)-0).toNat+1) x target ((x.length:Nat):Int) 0 ((x.length:Nat):Int)) fun r217=>
 bif (decide (r217.2.2.2<r217.2.2.1)) then
  bif (Zn r217.2.2.2 r217.1.length) then
   some (r217.2.2.2,(decide ((ZdE (ZhO (rd r217.1 r217.2.2.2.toNat)) r217.2.1)=0)))
  else none
 else some (r217.2.2.2,false)
def ZaR (s:V) (key:List V):Option (Int×Bool):=
 Option.bind (Zbp (gl s 1) key) fun r218=>
 some (r218.1,r218.2)
def Zy (s:List V):Option (List V):=
 bif ((Zv (0+s.length) 1)&&true) then
  some s
 else none
def ZfU (t:V) (a1:V):Bool:=
 (Zep (gl t 0) (gl a1 0))
def Zav:Nat→List V→V→Int→Int→Option (Nat×Int)
 | 0,_,_,_,_=>none
 | k_+1,s0,f1_0,v7,v8=>
  bif (decide (v8<v7)) then
   bif (Zn v8 s0.length) then
    bif ZfU (Zn7 (rd s0 v8.toNat)) (V.agg [(V.inl Zc (gl f1_0 0))]) then
     some (0,v8)
    else Zav k_ s0 (V.agg [(V.inl Zc (gl f1_0 0))]) v7 (IntKind.i64.wrap (v8+1))
   else none
  else some (1,0)
def Zdo (s:List V) (f_0:V):Option (Int):=
 Option.bind (Zav ((((s.length:Nat):Int)-0).toNat+1) s (V.agg [(V.inl Zc (gl f_0 0))]) ((s.length:Nat):Int) 0) fun r223=>
 bif (Nat.beq r223.1 0) then
  some r223.2
 else some (-1)
def Zby (s:V) (key:List V):Option (Int):=
 Option.bind (Zdo (gl s 2) (V.agg [(V.inl Zc key)])) fun r224=>
 some r224
def Ze2 (x:V) (a1:V):Bool:=
 (decide ((gi x 0)=(gi a1 0)))
def Zak:Nat→List V→V→Int→Int→Option (Nat×Int)
 | 0,_,_,_,_=>none
 | k_+1,s0,f1_0,v7,v8=>
  bif (decide (v8<v7)) then
   bif (Zn v8 s0.length) then
    bif Ze2 (Zdn (rd s0 v8.toNat)) (V.agg [(V.int .i64 (gi f1_0 0))]) then
     some (0,v8)
    else Zak k_ s0 (V.agg [(V.int .i64 (gi f1_0 0))]) v7 (IntKind.i64.wrap (v8+1))
   else none
  else some (1,0)
def ZcF (s:List V) (f_0:V):Option (Int):=
 Option.bind (Zak ((((s.length:Nat):Int)-0).toNat+1) s (V.agg [(V.int .i64 (gi f_0 0))]) ((s.length:Nat):Int) 0) fun r242=>
 bif (Nat.beq r242.1 0) then
  some r242.2
 else some (-1)
def Zal (s:V) (id:Int):Option (Int):=
 Option.bind (ZcF (gl s 4) (V.agg [(V.int .i64 id)])) fun r243=>
 some r243
def ZbU:Nat→V→List V→List V→List V→List V→Option (V×List V×List V×List V×List V)
 | 0,_,_,_,_,_=>none
 | k_+1,b0,r1,r2,r3,r4=>
  bif (decide ((10:Int)<((r2.length:Nat):Int))) then
   bif (Zn 0 r2.length) then
    Option.bind (Zdd r2 0 1) fun r250=>
    ZbU k_ (V.agg [(V.int .i64 (gi b0 0)),(V.sl 1 Zg 0 none),(V.sl 2 Zf 0 none),(V.int .i64 (gi (rd r2 0) 1)),(V.sl 3 Za 0 none),(V.sl 4 Ze 0 none)]) r1 r250 r3 r4
   else none
  else some ((V.agg [(V.int .i64 (gi b0 0)),(V.sl 1 Zg 0 none),(V.sl 2 Zf 0 none),(V.int .i64 (gi b0 3)),(V.sl 3 Za 0 none),(V.sl 4 Ze 0 none)]),r1,r2,r3,r4)
def ZdF (s:V) (k:Int):Option (V):=
 bif (Zn k ((gl s 1).length)) then
  bif ((Zv (((gl s 2).length)+1) 32)&&true) then
   Option.bind (Zdd (gl s 1) k (IntKind.i64.wrap (k+1))) fun r249=>
   Option.bind (ZbU ((((((gl s 2)++[(V.agg [(V.inl Zc (gl (rd (gl s 1) (0+k.toNat)) 0)),(V.int .i64 (gi s 0))])]).length:Nat):Int)-10).toNat+1) (V.agg [(V.int .i64 (gi s 0)),(V.sl 1 Zg 0 none),(V.sl 2 Zf 0 none),(V.int .i64 (gi s 3)),(V.sl 3 Za 0 none),(V.sl 4 Ze 0 none)]) r249 ((gl s 2)++[(V.agg [(V.inl Zc (gl (rd (gl s 1) (0+k.toNat)) 0)),(V.int .i64 (gi s 0))])]) (gl s 4) (gl s 5)) fun r251=>
   some (V.agg [(V.int .i64 (gi r251.1 0)),(V.inl Zg r251.2.1),(V.inl Zf r251.2.2.1),(V.int .i64 (gi r251.1 3)),(V.inl Za r251.2.2.2.1),(V.inl Ze r251.2.2.2.2)])
  else none
 else none
def Zad (s:V) (key:List V) (val:List V):Option (Bool×V):=
 Option.bind (ZaR (Zd s) key) fun r271=>
 bif (!r271.2) then
  bif (decide ((((gl s 1).length:Nat):Int)=20)) then
   some (false,(Zd s))
  else Option.bind (Zy key) fun r272=>
  Option.bind (Zcp 64 (gl s 1) r271.1 [(V.agg [(V.inl Zc r272),(V.inl Zc []),(V.int .i64 0),(V.int .i64 0)])]) fun r273=>
  Option.bind (Zby (V.agg [(V.int .i64 (gi s 0)),(V.inl Zg r273),(V.inl Zf (gl s 2)),(V.int .i64 (gi s 3)),(V.inl Za (gl s 4)),(V.inl Ze (gl s 5))]) key) fun r274=>
  bif (decide ((0:Int)≤r274)) then
   Option.bind (Zdd (gl s 2) r274 (IntKind.i64.wrap (r274+1))) fun r275=>
   Option.bind (Zy val) fun r276=>
   bif (Zn r271.1 r273.length) then
    bif (Zn r271.1 ((r273.set (0+r271.1.toNat) (V.agg [(V.inl Zc (gl (rd r273 (0+r271.1.toNat)) 0)),(V.inl Zc r276),(V.int .i64 (gi (rd r273 (0+r271.1.toNat)) 2)),(V.int .i64 (gi (rd r273 (0+r271.1.toNat)) 3))])).length)) then
     some (true,(V.agg [(V.int .i64 (gi s 0)),(V.inl Zg ((r273.set (0+r271.1.toNat) (V.agg [(V.inl Zc (gl (rd r273 (0+r271.1.toNat)) 0)),(V.inl Zc r276),(V.int .i64 (gi (rd r273 (0+r271.1.toNat)) 2)),(V.int .i64 (gi (rd r273 (0+r271.1.toNat)) 3))])).set (0+r271.1.toNat) (V.agg [(V.inl Zc (gl (rd (r273.set (0+r271.1.toNat) (V.agg [(V.inl Zc (gl (rd r273 (0+r271.1.toNat)) 0)),(V.inl Zc r276),(V.int .i64 (gi (rd r273 (0+r271.1.toNat)) 2)),(V.int .i64 (gi (rd r273 (0+r271.1.toNat)) 3))])) (0+r271.1.toNat)) 0)),(V.inl Zc (gl (rd (r273.set (0+r271.1.toNat) (V.agg [(V.inl Zc (gl (rd r273 (0+r271.1.toNat)) 0)),(V.inl Zc r276),(V.int .i64 (gi (rd r273 (0+r271.1.toNat)) 2)),(V.int .i64 (gi (rd r273 (0+r271.1.toNat)) 3))])) (0+r271.1.toNat)) 1)),(V.int .i64 (gi s 0)),(V.int .i64 (gi (rd (r273.set (0+r271.1.toNat) (V.agg [(V.inl Zc (gl (rd r273 (0+r271.1.toNat)) 0)),(V.inl Zc r276),(V.int .i64 (gi (rd r273 (0+r271.1.toNat)) 2)),(V.int .i64 (gi (rd r273 (0+r271.1.toNat)) 3))])) (0+r271.1.toNat)) 3))]))),(V.inl Zf r275),(V.int .i64 (gi s 3)),(V.inl Za (gl s 4)),(V.inl Ze (gl s 5))]))
    else none
   else none
  else Option.bind (Zy val) fun r277=>
  bif (Zn r271.1 r273.length) then
   bif (Zn r271.1 ((r273.set (0+r271.1.toNat) (V.agg [(V.inl Zc (gl (rd r273 (0+r271.1.toNat)) 0)),(V.inl Zc r277),(V.int .i64 (gi (rd r273 (0+r271.1.toNat)) 2)),(V.int .i64 (gi (rd r273 (0+r271.1.toNat)) 3))])).length)) then
    some (true,(V.agg [(V.int .i64 (gi s 0)),(V.inl Zg ((r273.set (0+r271.1.toNat) (V.agg [(V.inl Zc (gl (rd r273 (0+r271.1.toNat)) 0)),(V.inl Zc r277),(V.int .i64 (gi (rd r273 (0+r271.1.toNat)) 2)),(V.int .i64 (gi (rd r273 (0+r271.1.toNat)) 3))])).set (0+r271.1.toNat) (V.agg [(V.inl Zc (gl (rd (r273.set (0+r271.1.toNat) (V.agg [(V.inl Zc (gl (rd r273 (0+r271.1.toNat)) 0)),(V.inl Zc r277),(V.int .i64 (gi (rd r273 (0+r271.1.toNat)) 2)),(V.int .i64 (gi (rd r273 (0+r271.1.toNat)) 3))])) (0+r271.1.toNat)) 0)),(V.inl Zc (gl (rd (r273.set (0+r271.1.toNat) (V.agg [(V.inl Zc (gl (rd r273 (0+r271.1.toNat)) 0)),(V.inl Zc r277),(V.int .i64 (gi (rd r273 (0+r271.1.toNat)) 2)),(V.int .i64 (gi (rd r273 (0+r271.1.toNat)) 3))])) (0+r271.1.toNat)) 1)),(V.int .i64 (gi s 0)),(V.int .i64 (gi (rd (r273.set (0+r271.1.toNat) (V.agg [(V.inl Zc (gl (rd r273 (0+r271.1.toNat)) 0)),(V.inl Zc r277),(V.int .i64 (gi (rd r273 (0+r271.1.toNat)) 2)),(V.int .i64 (gi (rd r273 (0+r271.1.toNat)) 3))])) (0+r271.1.toNat)) 3))]))),(V.inl Zf (gl s 2)),(V.int .i64 (gi s 3)),(V.inl Za (gl s 4)),(V.inl Ze (gl s 5))]))
   else none
  else none
 else Option.bind (Zy val) fun r278=>
 bif (Zn r271.1 ((gl s 1).length)) then
  bif (Zn r271.1 (((gl s 1).set (0+r271.1.toNat) (V.agg [(V.inl Zc (gl (rd (gl s 1) (0+r271.1.toNat)) 0)),(V.inl Zc r278),(V.int .i64 (gi (rd (gl s 1) (0+r271.1.toNat)) 2)),(V.int .i64 (gi (rd (gl s 1) (0+r271.1.toNat)) 3))])).length)) then
   some (true,(V.agg [(V.int .i64 (gi s 0)),(V.inl Zg (((gl s 1).set (0+r271.1.toNat) (V.agg [(V.inl Zc (gl (rd (gl s 1) (0+r271.1.toNat)) 0)),(V.inl Zc r278),(V.int .i64 (gi (rd (gl s 1) (0+r271.1.toNat)) 2)),(V.int .i64 (gi (rd (gl s 1) (0+r271.1.toNat)) 3))])).set (0+r271.1.toNat) (V.agg [(V.inl Zc (gl (rd ((gl s 1).set (0+r271.1.toNat) (V.agg [(V.inl Zc (gl (rd (gl s 1) (0+r271.1.toNat)) 0)),(V.inl Zc r278),(V.int .i64 (gi (rd (gl s 1) (0+r271.1.toNat)) 2)),(V.int .i64 (gi (rd (gl s 1) (0+r271.1.toNat)) 3))])) (0+r271.1.toNat)) 0)),(V.inl Zc (gl (rd ((gl s 1).set (0+r271.1.toNat) (V.agg [(V.inl Zc (gl (rd (gl s 1) (0+r271.1.toNat)) 0)),(V.inl Zc r278),(V.int .i64 (gi (rd (gl s 1) (0+r271.1.toNat)) 2)),(V.int .i64 (gi (rd (gl s 1) (0+r271.1.toNat)) 3))])) (0+r271.1.toNat)) 1)),(V.int .i64 (gi s 0)),(V.int .i64 (gi (rd ((gl s 1).set (0+r271.1.toNat) (V.agg [(V.inl Zc (gl (rd (gl s 1) (0+r271.1.toNat)) 0)),(V.inl Zc r278),(V.int .i64 (gi (rd (gl s 1) (0+r271.1.toNat)) 2)),(V.int .i64 (gi (rd (gl s 1) (0+r271.1.toNat)) 3))])) (0+r271.1.toNat)) 3))]))),(V.inl Zf (gl s 2)),(V.int .i64 (gi s 3)),(V.inl Za (gl s 4)),(V.inl Ze (gl s 5))]))
  else none
 else none
def Zbg:Nat→Int→Bool→Int→V→List V→List V→List V→List V→Option (V×List V×List V×List V×List V)
 | 0,_,_,_,_,_,_,_,_=>none
 | k_+1,id1,remove6,k7,b0,r1,r2,r3,r4=>
  bif (decide (k7<((r1.length:Nat):Int))) then
   bif (Zn k7 r1.length) then
    bif (!(decide ((gi (rd r1 (0+k7.toNat)) 3)=id1))) then
     Zbg k_ id1 remove6 (IntKind.i64.wrap (k7+1)) (V.agg [(V.int .i64 (gi b0 0)),(V.sl 1 Zg 0 none),(V.sl 2 Zf 0 none),(V.int .i64 (gi b0 3)),(V.sl 3 Za 0 none),(V.sl 4 Ze 0 none)]) r1 r2 r3 r4
    else bif remove6 then
     Option.bind (ZdF (V.agg [(V.int .i64 (gi b0 0)),(V.inl Zg r1),(V.inl Zf r2),(V.int .i64 (gi b0 3)),(V.inl Za r3),(V.inl Ze r4)]) k7) fun r290=>
     Zbg k_ id1 remove6 (IntKind.i64.wrap ((IntKind.i64.wrap (k7-1))+1)) (V.agg [(V.int .i64 (gi r290 0)),(V.sl 1 Zg 0 none),(V.sl 2 Zf 0 none),(V.int .i64 (gi r290 3)),(V.sl 3 Za 0 none),(V.sl 4 Ze 0 none)]) (gl r290 1) (gl r290 2) (gl r290 4) (gl r290 5)
    else bif (Zn k7 r1.length) then
     bif (Zn k7 ((r1.set (0+k7.toNat) (V.agg [(V.inl Zc (gl (rd r1 (0+k7.toNat)) 0)),(V.inl Zc (gl (rd r1 (0+k7.toNat)) 1)),(V.int .i64 (gi (rd r1 (0+k7.toNat)) 2)),(V.int .i64 0)])).length)) then
      Zbg k_ id1 remove6 (IntKind.i64.wrap (k7+1)) (V.agg [(V.int .i64 (gi b0 0)),(V.sl 1 Zg 0 none),(V.sl 2 Zf 0 none),(V.int .i64 (gi b0 3)),(V.sl 3 Za 0 none),(V.sl 4 Ze 0 none)]) ((r1.set (0+k7.toNat) (V.agg [(V.inl Zc (gl (rd r1 (0+k7.toNat)) 0)),(V.inl Zc (gl (rd r1 (0+k7.toNat)) 1)),(V.int .i64 (gi (rd r1 (0+k7.toNat)) 2)),(V.int .i64 0)])).set (0+k7.toNat) (V.agg [(V.inl Zc (gl (rd (r1.set (0+k7.toNat) (V.agg [(V.inl Zc (gl (rd r1 (0+k7.toNat)) 0)),(V.inl Zc (gl (rd r1 (0+k7.toNat)) 1)),(V.int .i64 (gi (rd r1 (0+k7.toNat)) 2)),(V.int .i64 0)])) (0+k7.toNat)) 0)),(V.inl Zc (gl (rd (r1.set (0+k7.toNat) (V.agg [(V.inl Zc (gl (rd r1 (0+k7.toNat)) 0)),(V.inl Zc (gl (rd r1 (0+k7.toNat)) 1)),(V.int .i64 (gi (rd r1 (0+k7.toNat)) 2)),(V.int .i64 0)])) (0+k7.toNat)) 1)),(V.int .i64 (gi b0 0)),(V.int .i64 (gi (rd (r1.set (0+k7.toNat) (V.agg [(V.inl Zc (gl (rd r1 (0+k7.toNat)) 0)),(V.inl Zc (gl (rd r1 (0+k7.toNat)) 1)),(V.int .i64 (gi (rd r1 (0+k7.toNat)) 2)),(V.int .i64 0)])) (0+k7.toNat)) 3))])) r2 r3 r4
     else none
    else none
   else none
  else some ((V.agg [(V.int .i64 (gi b0 0)),(V.sl 1 Zg 0 none),(V.sl 2 Zf 0 none),(V.int .i64 (gi b0 3)),(V.sl 3 Za 0 none),(V.sl 4 Ze 0 none)]),r1,r2,r3,r4)
def ZfE (s:V) (id:Int):Option (Int×V):=
 Option.bind (Zal (Zd s) id) fun r288=>
 bif (decide (r288<0)) then
  some (1,(Zd s))
 else bif (Zn r288 ((gl s 4).length)) then
  Option.bind (Zdd (gl s 4) r288 (IntKind.i64.wrap (r288+1))) fun r289=>
  Option.bind (Zbg (((((gl s 1).length:Nat):Int)-0).toNat+1) id (gb (rd (gl s 4) (0+r288.toNat)) 1) 0 (V.agg [(V.int .i64 (gi s 0)),(V.sl 1 Zg 0 none),(V.sl 2 Zf 0 none),(V.int .i64 (gi s 3)),(V.sl 3 Za 0 none),(V.sl 4 Ze 0 none)]) (gl s 1) (gl s 2) r289 (gl s 5)) fun r291=>
  some (0,(V.agg [(V.int .i64 (gi r291.1 0)),(V.inl Zg r291.2.1),(V.inl Zf r291.2.2.1),(V.int .i64 (gi r291.1 3)),(V.inl Za r291.2.2.2.1),(V.inl Ze r291.2.2.2.2)]))
 else none
def ZcG (s:V) (o:V):Option (Int×V):=
 Option.bind (ZaR (Zd s) (gl o 1)) fun r270=>
 bif (decide ((gi o 0)=1)) then
  bif r270.2 then
   bif (Zn r270.1 ((gl s 1).length)) then
    bif (decide ((gi o 0)=2)) then
     bif (!(decide ((gi (rd (gl s 1) (0+r270.1.toNat)) 2)=(gi o 3)))) then
      some (3,(Zd s))
     else Option.bind (Zad (Zd s) (gl o 1) (gl o 2)) fun r279=>
     bif (!r279.1) then
      some (4,(Zd r279.2))
     else some (0,(Zd r279.2))
    else Option.bind (Zad (Zd s) (gl o 1) (gl o 2)) fun r280=>
    bif (!r280.1) then
     some (4,(Zd r280.2))
    else some (0,(Zd r280.2))
   else none
  else bif (decide ((gi o 0)=2)) then
   bif (!(decide ((0:Int)=(gi o 3)))) then
    some (3,(Zd s))
   else Option.bind (Zad (Zd s) (gl o 1) (gl o 2)) fun r281=>
   bif (!r281.1) then
    some (4,(Zd r281.2))
   else some (0,(Zd r281.2))
  else Option.bind (Zad (Zd s) (gl o 1) (gl o 2)) fun r282=>
  bif (!r282.1) then
   some (4,(Zd r282.2))
  else some (0,(Zd r282.2))
 else bif (decide ((gi o 0)=2)) then
  bif r270.2 then
   bif (Zn r270.1 ((gl s 1).length)) then
    bif (decide ((gi o 0)=2)) then
     bif (!(decide ((gi (rd (gl s 1) (0+r270.1.toNat)) 2)=(gi o 3)))) then
      some (3,(Zd s))
     else Option.bind (Zad (Zd s) (gl o 1) (gl o 2)) fun r283=>
     bif (!r283.1) then
      some (4,(Zd r283.2))
     else some (0,(Zd r283.2))
    else Option.bind (Zad (Zd s) (gl o 1) (gl o 2)) fun r284=>
    bif (!r284.1) then
     some (4,(Zd r284.2))
    else some (0,(Zd r284.2))
   else none
  else bif (decide ((gi o 0)=2)) then
   bif (!(decide ((0:Int)=(gi o 3)))) then
    some (3,(Zd s))
   else Option.bind (Zad (Zd s) (gl o 1) (gl o 2)) fun r285=>
   bif (!r285.1) then
    some (4,(Zd r285.2))
   else some (0,(Zd r285.2))
  else Option.bind (Zad (Zd s) (gl o 1) (gl o 2)) fun r286=>
  bif (!r286.1) then
   some (4,(Zd r286.2))
  else some (0,(Zd r286.2))
 else bif (decide ((gi o 0)=3)) then
  bif (!r270.2) then
   some (1,(Zd s))
  else Option.bind (ZdF (Zd s) r270.1) fun r287=>
  some (0,(Zd r287))
 else bif (decide ((gi o 0)=4)) then
  bif (decide ((((gl s 4).length:Nat):Int)=8)) then
   some (4,(Zd s))
  else bif ((Zv (((gl s 4).length)+1) 16)&&true) then
   some (0,(V.agg [(V.int .i64 (gi s 0)),(V.inl Zg (gl s 1)),(V.inl Zf (gl s 2)),(V.int .i64 (gi s 3)),(V.inl Za ((gl s 4)++[(V.agg [(V.int .i64 (gi s 0)),(V.bool (decide ((gi o 3)=1)))])])),(V.inl Ze (gl s 5))]))
  else none
 else bif (decide ((gi o 0)=5)) then
  Option.bind (ZfE (Zd s) (gi o 3)) fun r292=>
  some (r292.1,(Zd r292.2))
 else bif (decide ((gi o 0)=6)) then
  Option.bind (Zal (Zd s) (gi o 3)) fun r293=>
  bif (decide (r293<0)) then
   some (1,(Zd s))
  else bif r270.2 then
   bif (Zn r270.1 ((gl s 1).length)) then
    bif (!(decide ((gi (rd (gl s 1) (0+r270.1.toNat)) 3)=0))) then
     bif (Zn r270.1 ((gl s 1).length)) then
      bif (!(decide ((gi (rd (gl s 1) (0+r270.1.toNat)) 3)=(gi o 3)))) then
       some (2,(Zd s))
      else Option.bind (Zad (Zd s) (gl o 1) (gl o 2)) fun r294=>
      bif (!r294.1) then
       some (4,(Zd r294.2))
      else bif (Zn r270.1 ((gl r294.2 1).length)) then
       some (0,(V.agg [(V.int .i64 (gi r294.2 0)),(V.inl Zg ((gl r294.2 1).set (0+r270.1.toNat) (V.agg [(V.inl Zc (gl (rd (gl r294.2 1) (0+r270.1.toNat)) 0)),(V.inl Zc (gl (rd (gl r294.2 1) (0+r270.1.toNat)) 1)),(V.int .i64 (gi (rd (gl r294.2 1) (0+r270.1.toNat)) 2)),(V.int .i64 (gi o 3))]))),(V.inl Zf (gl r294.2 2)),(V.int .i64 (gi r294.2 3)),(V.inl Za (gl r294.2 4)),(V.inl Ze (gl r294.2 5))]))
      else none
     else none
    else Option.bind (Zad (Zd s) (gl o 1) (gl o 2)) fun r295=>
    bif (!r295.1) then
     some (4,(Zd r295.2))
    else bif (Zn r270.1 ((gl r295.2 1).length)) then
     some (0,(V.agg [(V.int .i64 (gi r295.2 0)),(V.inl Zg ((gl r295.2 1).set (0+r270.1.toNat) (V.agg [(V.inl Zc (gl (rd (gl r295.2 1) (0+r270.1.toNat)) 0)),(V.inl Zc (gl (rd (gl r295.2 1) (0+r270.1.toNat)) 1)),(V.int .i64 (gi (rd (gl r295.2 1) (0+r270.1.toNat)) 2)),(V.int .i64 (gi o 3))]))),(V.inl Zf (gl r295.2 2)),(V.int .i64 (gi r295.2 3)),(V.inl Za (gl r295.2 4)),(V.inl Ze (gl r295.2 5))]))
    else none
   else none
  else Option.bind (Zad (Zd s) (gl o 1) (gl o 2)) fun r296=>
  bif (!r296.1) then
   some (4,(Zd r296.2))
  else bif (Zn r270.1 ((gl r296.2 1).length)) then
   some (0,(V.agg [(V.int .i64 (gi r296.2 0)),(V.inl Zg ((gl r296.2 1).set (0+r270.1.toNat) (V.agg [(V.inl Zc (gl (rd (gl r296.2 1) (0+r270.1.toNat)) 0)),(V.inl Zc (gl (rd (gl r296.2 1) (0+r270.1.toNat)) 1)),(V.int .i64 (gi (rd (gl r296.2 1) (0+r270.1.toNat)) 2)),(V.int .i64 (gi o 3))]))),(V.inl Zf (gl r296.2 2)),(V.int .i64 (gi r296.2 3)),(V.inl Za (gl r296.2 4)),(V.inl Ze (gl r296.2 5))]))
  else none
 else bif (decide ((gi o 0)=7)) then
  bif (!r270.2) then
   some (1,(Zd s))
  else bif (Zn r270.1 ((gl s 1).length)) then
   bif (!(decide ((gi (rd (gl s 1) (0+r270.1.toNat)) 3)=(gi o 3)))) then
    some (1,(Zd s))
   else bif (Zn r270.1 ((gl s 1).length)) then
    bif (Zn r270.1 (((gl s 1).set (0+r270.1.toNat) (V.agg [(V.inl Zc (gl (rd (gl s 1) (0+r270.1.toNat)) 0)),(V.inl Zc (gl (rd (gl s 1) (0+r270.1.toNat)) 1)),(V.int .i64 (gi (rd (gl s 1) (0+r270.1.toNat)) 2)),(V.int .i64 0)])).length)) then
     some (0,(V.agg [(V.int .i64 (gi s 0)),(V.inl Zg (((gl s 1).set (0+r270.1.toNat) (V.agg [(V.inl Zc (gl (rd (gl s 1) (0+r270.1.toNat)) 0)),(V.inl Zc (gl (rd (gl s 1) (0+r270.1.toNat)) 1)),(V.int .i64 (gi (rd (gl s 1) (0+r270.1.toNat)) 2)),(V.int .i64 0)])).set (0+r270.1.toNat) (V.agg [(V.inl Zc (gl (rd ((gl s 1).set (0+r270.1.toNat) (V.agg [(V.inl Zc (gl (rd (gl s 1) (0+r270.1.toNat)) 0)),(V.inl Zc (gl (rd (gl s 1) (0+r270.1.toNat)) 1)),(V.int .i64 (gi (rd (gl s 1) (0+r270.1.toNat)) 2)),(V.int .i64 0)])) (0+r270.1.toNat)) 0)),(V.inl Zc (gl (rd ((gl s 1).set (0+r270.1.toNat) (V.agg [(V.inl Zc (gl (rd (gl s 1) (0+r270.1.toNat)) 0)),(V.inl Zc (gl (rd (gl s 1) (0+r270.1.toNat)) 1)),(V.int .i64 (gi (rd (gl s 1) (0+r270.1.toNat)) 2)),(V.int .i64 0)])) (0+r270.1.toNat)) 1)),(V.int .i64 (gi s 0)),(V.int .i64 (gi (rd ((gl s 1).set (0+r270.1.toNat) (V.agg [(V.inl Zc (gl (rd (gl s 1) (0+r270.1.toNat)) 0)),(V.inl Zc (gl (rd (gl s 1) (0+r270.1.toNat)) 1)),(V.int .i64 (gi (rd (gl s 1) (0+r270.1.toNat)) 2)),(V.int .i64 0)])) (0+r270.1.toNat)) 3))]))),(V.inl Zf (gl s 2)),(V.int .i64 (gi s 3)),(V.inl Za (gl s 4)),(V.inl Ze (gl s 5))]))
    else none
   else none
  else none
 else some (0,(Zd s))
def ZdV (s:V) (c:V):Option (V×V):=
 bif (decide ((gi c 0)<0)) then
  some ((V.agg [(V.int .i64 0),(V.int .i64 (IntKind.i64.wrap ((gi s 0)+1)))]),(V.agg [(V.int .i64 (IntKind.i64.wrap ((gi s 0)+1))),(V.inl Zg (gl s 1)),(V.inl Zf (gl s 2)),(V.int .i64 (gi s 3)),(V.inl Za (gl s 4)),(V.inl Ze (gl s 5))]))
 else Option.bind (Zcd (V.agg [(V.int .i64 (IntKind.i64.wrap ((gi s 0)+1))),(V.inl Zg (gl s 1)),(V.inl Zf (gl s 2)),(V.int .i64 (gi s 3)),(V.inl Za (gl s 4)),(V.inl Ze (gl s 5))]) (gi c 0)) fun r269=>
 bif r269.2 then
  bif (Zn r269.1 ((gl s 5).length)) then
   bif (decide ((gi (rd (gl s 5) (0+r269.1.toNat)) 1)=(gi c 1))) then
    bif (Zn r269.1 ((gl s 5).length)) then
     some ((V.agg [(V.int .i64 (gi (rd (gl s 5) (0+r269.1.toNat)) 2)),(V.int .i64 (gi (rd (gl s 5) (0+r269.1.toNat)) 3))]),(V.agg [(V.int .i64 (IntKind.i64.wrap ((gi s 0)+1))),(V.inl Zg (gl s 1)),(V.inl Zf (gl s 2)),(V.int .i64 (gi s 3)),(V.inl Za (gl s 4)),(V.inl Ze (gl s 5))]))
    else none
   else bif r269.2 then
    bif (Zn r269.1 ((gl s 5).length)) then
     bif (decide ((gi c 1)<(gi (rd (gl s 5) (0+r269.1.toNat)) 1))) then
      some ((V.agg [(V.int .i64 5),(V.int .i64 (IntKind.i64.wrap ((gi s 0)+1)))]),(V.agg [(V.int .i64 (IntKind.i64.wrap ((gi s 0)+1))),(V.inl Zg (gl s 1)),(V.inl Zf (gl s 2)),(V.int .i64 (gi s 3)),(V.inl Za (gl s 4)),(V.inl Ze (gl s 5))]))
     else Option.bind (ZcG (V.agg [(V.int .i64 (IntKind.i64.wrap ((gi s 0)+1))),(V.inl Zg (gl s 1)),(V.inl Zf (gl s 2)),(V.int .i64 (gi s 3)),(V.inl Za (gl s 4)),(V.inl Ze (gl s 5))]) (V.agg [(V.int .i64 (gi c 2)),(V.inl Zc (gl c 3)),(V.inl Zc (gl c 4)),(V.int .i64 (gi c 5))])) fun r297=>
     bif r269.2 then
      bif (Zn r269.1 ((gl r297.2 5).length)) then
       some ((V.agg [(V.int .i64 r297.1),(V.int .i64 (IntKind.i64.wrap ((gi s 0)+1)))]),(V.agg [(V.int .i64 (gi r297.2 0)),(V.inl Zg (gl r297.2 1)),(V.inl Zf (gl r297.2 2)),(V.int .i64 (gi r297.2 3)),(V.inl Za (gl r297.2 4)),(V.inl Ze ((gl r297.2 5).set (0+r269.1.toNat) (V.agg [(V.int .i64 (gi c 0)),(V.int .i64 (gi c 1)),(V.int .i64 r297.1),(V.int .i64 (IntKind.i64.wrap ((gi s 0)+1)))])))]))
      else none
     else Option.bind (Zcp 32 (gl r297.2 5) r269.1 [(V.agg [(V.int .i64 (gi c 0)),(V.int .i64 (gi c 1)),(V.int .i64 r297.1),(V.int .i64 (IntKind.i64.wrap ((gi s 0)+1)))])]) fun r298=>
     some ((V.agg [(V.int .i64 r297.1),(V.int .i64 (IntKind.i64.wrap ((gi s 0)+1)))]),(V.agg [(V.int .i64 (gi r297.2 0)),(V.inl Zg (gl r297.2 1)),(V.inl Zf (gl r297.2 2)),(V.int .i64 (gi r297.2 3)),(V.inl Za (gl r297.2 4)),(V.inl Ze r298)]))
    else none
   else Option.bind (ZcG (V.agg [(V.int .i64 (IntKind.i64.wrap ((gi s 0)+1))),(V.inl Zg (gl s 1)),(V.inl Zf (gl s 2)),(V.int .i64 (gi s 3)),(V.inl Za (gl s 4)),(V.inl Ze (gl s 5))]) (V.agg [(V.int .i64 (gi c 2)),(V.inl Zc (gl c 3)),(V.inl Zc (gl c 4)),(V.int .i64 (gi c 5))])) fun r299=>
   bif r269.2 then
    bif (Zn r269.1 ((gl r299.2 5).length)) then
     some ((V.agg [(V.int .i64 r299.1),(V.int .i64 (IntKind.i64.wrap ((gi s 0)+1)))]),(V.agg [(V.int .i64 (gi r299.2 0)),(V.inl Zg (gl r299.2 1)),(V.inl Zf (gl r299.2 2)),(V.int .i64 (gi r299.2 3)),(V.inl Za (gl r299.2 4)),(V.inl Ze ((gl r299.2 5).set (0+r269.1.toNat) (V.agg [(V.int .i64 (gi c 0)),(V.int .i64 (gi c 1)),(V.int .i64 r299.1),(V.int .i64 (IntKind.i64.wrap ((gi s 0)+1)))])))]))
    else none
   else Option.bind (Zcp 32 (gl r299.2 5) r269.1 [(V.agg [(V.int .i64 (gi c 0)),(V.int .i64 (gi c 1)),(V.int .i64 r299.1),(V.int .i64 (IntKind.i64.wrap ((gi s 0)+1)))])]) fun r300=>
   some ((V.agg [(V.int .i64 r299.1),(V.int .i64 (IntKind.i64.wrap ((gi s 0)+1)))]),(V.agg [(V.int .i64 (gi r299.2 0)),(V.inl Zg (gl r299.2 1)),(V.inl Zf (gl r299.2 2)),(V.int .i64 (gi r299.2 3)),(V.inl Za (gl r299.2 4)),(V.inl Ze r300)]))
  else none
 else bif r269.2 then
  bif (Zn r269.1 ((gl s 5).length)) then
   bif (decide ((gi c 1)<(gi (rd (gl s 5) (0+r269.1.toNat)) 1))) then
    some ((V.agg [(V.int .i64 5),(V.int .i64 (IntKind.i64.wrap ((gi s 0)+1)))]),(V.agg [(V.int .i64 (IntKind.i64.wrap ((gi s 0)+1))),(V.inl Zg (gl s 1)),(V.inl Zf (gl s 2)),(V.int .i64 (gi s 3)),(V.inl Za (gl s 4)),(V.inl Ze (gl s 5))]))
   else Option.bind (ZcG (V.agg [(V.int .i64 (IntKind.i64.wrap ((gi s 0)+1))),(V.inl Zg (gl s 1)),(V.inl Zf (gl s 2)),(V.int .i64 (gi s 3)),(V.inl Za (gl s 4)),(V.inl Ze (gl s 5))]) (V.agg [(V.int .i64 (gi c 2)),(V.inl Zc (gl c 3)),(V.inl Zc (gl c 4)),(V.int .i64 (gi c 5))])) fun r301=>
   bif r269.2 then
    bif (Zn r269.1 ((gl r301.2 5).length)) then
     some ((V.agg [(V.int .i64 r301.1),(V.int .i64 (IntKind.i64.wrap ((gi s 0)+1)))]),(V.agg [(V.int .i64 (gi r301.2 0)),(V.inl Zg (gl r301.2 1)),(V.inl Zf (gl r301.2 2)),(V.int .i64 (gi r301.2 3)),(V.inl Za (gl r301.2 4)),(V.inl Ze ((gl r301.2 5).set (0+r269.1.toNat) (V.agg [(V.int .i64 (gi c 0)),(V.int .i64 (gi c 1)),(V.int .i64 r301.1),(V.int .i64 (IntKind.i64.wrap ((gi s 0)+1)))])))]))
    else none
   else Option.bind (Zcp 32 (gl r301.2 5) r269.1 [(V.agg [(V.int .i64 (gi c 0)),(V.int .i64 (gi c 1)),(V.int .i64 r301.1),(V.int .i64 (IntKind.i64.wrap ((gi s 0)+1)))])]) fun r302=>
   some ((V.agg [(V.int .i64 r301.1),(V.int .i64 (IntKind.i64.wrap ((gi s 0)+1)))]),(V.agg [(V.int .i64 (gi r301.2 0)),(V.inl Zg (gl r301.2 1)),(V.inl Zf (gl r301.2 2)),(V.int .i64 (gi r301.2 3)),(V.inl Za (gl r301.2 4)),(V.inl Ze r302)]))
  else none
 else Option.bind (ZcG (V.agg [(V.int .i64 (IntKind.i64.wrap ((gi s 0)+1))),(V.inl Zg (gl s 1)),(V.inl Zf (gl s 2)),(V.int .i64 (gi s 3)),(V.inl Za (gl s 4)),(V.inl Ze (gl s 5))]) (V.agg [(V.int .i64 (gi c 2)),(V.inl Zc (gl c 3)),(V.inl Zc (gl c 4)),(V.int .i64 (gi c 5))])) fun r303=>
 bif r269.2 then
  bif (Zn r269.1 ((gl r303.2 5).length)) then
   some ((V.agg [(V.int .i64 r303.1),(V.int .i64 (IntKind.i64.wrap ((gi s 0)+1)))]),(V.agg [(V.int .i64 (gi r303.2 0)),(V.inl Zg (gl r303.2 1)),(V.inl Zf (gl r303.2 2)),(V.int .i64 (gi r303.2 3)),(V.inl Za (gl r303.2 4)),(V.inl Ze ((gl r303.2 5).set (0+r269.1.toNat) (V.agg [(V.int .i64 (gi c 0)),(V.int .i64 (gi c 1)),(V.int .i64 r303.1),(V.int .i64 (IntKind.i64.wrap ((gi s 0)+1)))])))]))
  else none
 else Option.bind (Zcp 32 (gl r303.2 5) r269.1 [(V.agg [(V.int .i64 (gi c 0)),(V.int .i64 (gi c 1)),(V.int .i64 r303.1),(V.int .i64 (IntKind.i64.wrap ((gi s 0)+1)))])]) fun r304=>
 some ((V.agg [(V.int .i64 r303.1),(V.int .i64 (IntKind.i64.wrap ((gi s 0)+1)))]),(V.agg [(V.int .i64 (gi r303.2 0)),(V.inl Zg (gl r303.2 1)),(V.inl Zf (gl r303.2 2)),(V.int .i64 (gi r303.2 3)),(V.inl Za (gl r303.2 4)),(V.inl Ze r304)]))
def ZaF:Nat→List V→Int→Int→V→V→List V→List V→List V→List V→List V→List V→List V→List V→List V→Option (V×V×List V×List V×List V×List V×List V×List V×List V×List V×List V)
 | 0,_,_,_,_,_,_,_,_,_,_,_,_,_,_=>none
 | k_+1,v12,v13,v14,b0,b1,r2,r3,r4,r5,r6,r7,r8,r9,r10=>
  bif (decide (v14<v13)) then
   bif (Zn v14 v12.length) then
    Option.bind (Zbd (V.agg [(V.int .i64 (gi (rd v12 v14.toNat) 1)),(V.int .i64 (gi (rd v12 v14.toNat) 2)),(V.int .i64 (gi (rd v12 v14.toNat) 3)),(V.inl Zc (gl (rd v12 v14.toNat) 4)),(V.inl Zc (gl (rd v12 v14.toNat) 5)),(V.int .i64 (gi (rd v12 v14.toNat) 6))])) fun r268=>
    bif (!r268) then
     some ((V.agg [(V.int .i64 (gi b0 0)),(V.sl 3 Zg 0 none),(V.sl 4 Zf 0 none),(V.int .i64 (gi b0 3)),(V.sl 5 Za 0 none),(V.sl 6 Ze 0 none)]),(V.agg [(V.int .i64 (gi b1 0)),(V.sl 7 Zg 0 none),(V.sl 8 Zf 0 none),(V.int .i64 (gi b1 3)),(V.sl 9 Za 0 none),(V.sl 10 Ze 0 none)]),r2,r3,r4,r5,r6,r7,r8,r9,r10)
    else Option.bind (ZdV (V.agg [(V.int .i64 (gi b1 0)),(V.inl Zg r7),(V.inl Zf r8),(V.int .i64 (gi b1 3)),(V.inl Za r9),(V.inl Ze r10)]) (V.agg [(V.int .i64 (gi (rd v12 v14.toNat) 1)),(V.int .i64 (gi (rd v12 v14.toNat) 2)),(V.int .i64 (gi (rd v12 v14.toNat) 3)),(V.inl Zc (gl (rd v12 v14.toNat) 4)),(V.inl Zc (gl (rd v12 v14.toNat) 5)),(V.int .i64 (gi (rd v12 v14.toNat) 6))])) fun r305=>
    bif ((Zv (r2.length+1) 16)&&true) then
     ZaF k_ v12 v13 (IntKind.i64.wrap (v14+1)) (V.agg [(V.int .i64 (gi b0 0)),(V.sl 3 Zg 0 none),(V.sl 4 Zf 0 none),(V.int .i64 (gi b0 3)),(V.sl 5 Za 0 none),(V.sl 6 Ze 0 none)]) (V.agg [(V.int .i64 (gi r305.2 0)),(V.sl 7 Zg 0 none),(V.sl 8 Zf 0 none),(V.int .i64 (gi r305.2 3)),(V.sl 9 Za 0 none),(V.sl 10 Ze 0 none)]) (r2++[(ZA r305.1)]) r3 r4 r5 r6 (gl r305.2 1) (gl r305.2 2) (gl r305.2 4) (gl r305.2 5)
    else none
   else none
  else some ((V.agg [(V.int .i64 (gi b0 0)),(V.sl 3 Zg 0 none),(V.sl 4 Zf 0 none),(V.int .i64 (gi b0 3)),(V.sl 5 Za 0 none),(V.sl 6 Ze 0 none)]),(V.agg [(V.int .i64 (gi b1 0)),(V.sl 7 Zg 0 none),(V.sl 8 Zf 0 none),(V.int .i64 (gi b1 3)),(V.sl 9 Za 0 none),(V.sl 10 Ze 0 none)]),r2,r3,r4,r5,r6,r7,r8,r9,r10)
def Zfq (l:List V):Option (V×List V):=
 bif (decide ((400:Int)<((l.length:Nat):Int))) then
  some ((V.agg [(V.int .i64 0),(V.inl Zg []),(V.inl Zf []),(V.int .i64 0),(V.inl Za []),(V.inl Ze [])]),[])
 else Option.bind (ZaF ((((l.length:Nat):Int)-0).toNat+1) l ((l.length:Nat):Int) 0 (V.agg [(V.int .i64 0),(V.sl 3 Zg 0 none),(V.sl 4 Zf 0 none),(V.int .i64 0),(V.sl 5 Za 0 none),(V.sl 6 Ze 0 none)]) (V.agg [(V.int .i64 0),(V.sl 7 Zg 0 none),(V.sl 8 Zf 0 none),(V.int .i64 0),(V.sl 9 Za 0 none),(V.sl 10 Ze 0 none)]) [] [] [] [] [] [] [] [] []) fun r306=>
 some ((V.agg [(V.int .i64 (gi r306.2.1 0)),(V.inl Zg r306.2.2.2.2.2.2.2.1),(V.inl Zf r306.2.2.2.2.2.2.2.2.1),(V.int .i64 (gi r306.2.1 3)),(V.inl Za r306.2.2.2.2.2.2.2.2.2.1),(V.inl Ze r306.2.2.2.2.2.2.2.2.2.2)]),r306.2.2.1)
def ZaL:Nat→List V→Int→Int→V→Option (Nat×Bool×V)
 | 0,_,_,_,_=>none
 | k_+1,v51,v52,v53,b0=>
  bif (decide (v53<v52)) then
   bif (Zn v53 v51.length) then
    Option.bind (Zb7 (gl (rd v51 v53.toNat) 0)) fun r310=>
    bif (!r310) then
     some (0,false,(Zd b0))
    else bif (!(ZcE (gl (rd v51 v53.toNat) 1))) then
     some (0,false,(Zd b0))
    else bif (!(ZL (gi (rd v51 v53.toNat) 2) 1 (gi b0 0))) then
     some (0,false,(Zd b0))
    else bif (!(decide ((gi (rd v51 v53.toNat) 3)=0))) then
     Option.bind (Zal (Zd b0) (gi (rd v51 v53.toNat) 3)) fun r311=>
     bif (decide (r311<0)) then
      some (0,false,(Zd b0))
     else bif (decide ((0:Int)<v53)) then
      bif (Zn (IntKind.i64.wrap (v53-1)) ((gl b0 1).length)) then
       bif (decide ((0:Int)≤(Zgq (gl (rd (gl b0 1) ((IntKind.i64.wrap (v53-1)).toNat)) 0) (gl (rd v51 v53.toNat) 0)))) then
        some (0,false,(Zd b0))
       else ZaL k_ v51 v52 (IntKind.i64.wrap (v53+1)) (Zd b0)
      else none
     else ZaL k_ v51 v52 (IntKind.i64.wrap (v53+1)) (Zd b0)
    else bif (decide ((0:Int)<v53)) then
     bif (Zn (IntKind.i64.wrap (v53-1)) ((gl b0 1).length)) then
      bif (decide ((0:Int)≤(Zgq (gl (rd (gl b0 1) ((IntKind.i64.wrap (v53-1)).toNat)) 0) (gl (rd v51 v53.toNat) 0)))) then
       some (0,false,(Zd b0))
      else ZaL k_ v51 v52 (IntKind.i64.wrap (v53+1)) (Zd b0)
     else none
    else ZaL k_ v51 v52 (IntKind.i64.wrap (v53+1)) (Zd b0)
   else none
  else some (1,false,(Zd b0))
def Za1:Nat→Int→List V→Int→Int→V→Option (Nat×Bool×V)
 | 0,_,_,_,_,_=>none
 | k_+1,before5,v110,v111,v112,b0=>
  bif (decide (v112<v111)) then
   bif (Zn v112 v110.length) then
    Option.bind (ZaR (Zd b0) (gl (rd v110 v112.toNat) 0)) fun r313=>
    bif r313.2 then
     some (0,false,(Zd b0))
    else Option.bind (Zb7 (gl (rd v110 v112.toNat) 0)) fun r314=>
    bif (!r314) then
     some (0,false,(Zd b0))
    else Option.bind (Zby (Zd b0) (gl (rd v110 v112.toNat) 0)) fun r315=>
    bif (!(decide (r315=v112))) then
     some (0,false,(Zd b0))
    else bif (!(ZL (gi (rd v110 v112.toNat) 1) before5 (gi b0 0))) then
     some (0,false,(Zd b0))
    else Za1 k_ (gi (rd v110 v112.toNat) 1) v110 v111 (IntKind.i64.wrap (v112+1)) (Zd b0)
   else none
  else some (1,false,(Zd b0))
def Za2:Nat→List V→Int→Int→V→Option (Nat×Bool×V)
 | 0,_,_,_,_=>none
 | k_+1,v152,v153,v154,b0=>
  bif (decide (v154<v153)) then
   bif (Zn v154 v152.length) then
    bif (!(ZL (gi (rd v152 v154.toNat) 0) 1 (gi b0 0))) then
     some (0,false,(Zd b0))
    else bif (decide ((0:Int)<v154)) then
     bif (Zn (IntKind.i64.wrap (v154-1)) ((gl b0 4).length)) then
      bif (decide ((gi (rd v152 v154.toNat) 0)≤(gi (rd (gl b0 4) ((IntKind.i64.wrap (v154-1)).toNat)) 0))) then
       some (0,false,(Zd b0))
      else Za2 k_ v152 v153 (IntKind.i64.wrap (v154+1)) (Zd b0)
     else none
    else Za2 k_ v152 v153 (IntKind.i64.wrap (v154+1)) (Zd b0)
   else none
  else some (1,false,(Zd b0))
def Za3:Nat→List V→Int→Int→V→Option (Nat×Bool)
 | 0,_,_,_,_=>none
 | k_+1,v183,v184,v185,b0=>
  bif (decide (v185<v184)) then
   bif (Zn v185 v183.length) then
    bif (!(ZL (gi (rd v183 v185.toNat) 0) 0 3)) then
     some (0,false)
    else bif (!(ZL (gi (rd v183 v185.toNat) 1) 1 1000000)) then
     some (0,false)
    else bif (!(ZL (gi (rd v183 v185.toNat) 2) 0 5)) then
     some (0,false)
    else bif (!(ZL (gi (rd v183 v185.toNat) 3) 1 (gi b0 0))) then
     some (0,false)
    else bif (decide ((0:Int)<v185)) then
     bif (Zn (IntKind.i64.wrap (v185-1)) ((gl b0 5).length)) then
      bif (decide ((gi (rd v183 v185.toNat) 0)≤(gi (rd (gl b0 5) ((IntKind.i64.wrap (v185-1)).toNat)) 0))) then
       some (0,false)
      else Za3 k_ v183 v184 (IntKind.i64.wrap (v185+1)) (Zd b0)
     else none
    else Za3 k_ v183 v184 (IntKind.i64.wrap (v185+1)) (Zd b0)
   else none
  else some (1,false)
def Zdp (s:V):Option (Bool):=
 bif (!(ZL (gi s 0) 0 1000000)) then
  some false
 else bif (!(ZL (gi s 3) 0 (gi s 0))) then
  some false
 else bif (decide ((20:Int)<(((gl s 1).length:Nat):Int))) then
  some false
 else bif (decide ((10:Int)<(((gl s 2).length:Nat):Int))) then
  some false
 else bif (decide ((8:Int)<(((gl s 4).length:Nat):Int))) then
  some false
 else bif (decide ((4:Int)<(((gl s 5).length:Nat):Int))) then
  some false
 else Option.bind (ZaL (((((gl s 1).length:Nat):Int)-0).toNat+1) (gl s 1) (((gl s 1).length:Nat):Int) 0 (Zd s)) fun r312=>
 bif (Nat.beq r312.1 0) then
  some r312.2.1
 else Option.bind (Za1 (((((gl r312.2.2 2).length:Nat):Int)-0).toNat+1) (mxI 1 (gi r312.2.2 3)) (gl r312.2.2 2) (((gl r312.2.2 2).length:Nat):Int) 0 (Zd r312.2.2)) fun r316=>
 bif (Nat.beq r316.1 0) then
  some r316.2.1
 else Option.bind (Za2 (((((gl r316.2.2 4).length:Nat):Int)-0).toNat+1) (gl r316.2.2 4) (((gl r316.2.2 4).length:Nat):Int) 0 (Zd r316.2.2)) fun r317=>
 bif (Nat.beq r317.1 0) then
  some r317.2.1
 else Option.bind (Za3 (((((gl r317.2.2 5).length:Nat):Int)-0).toNat+1) (gl r317.2.2 5) (((gl r317.2.2 5).length:Nat):Int) 0 (Zd r317.2.2)) fun r318=>
 bif (Nat.beq r318.1 0) then
  some r318.2
 else some true
def ZcH (s:List V):Option (List V):=
 bif ((Zv (0+s.length) 64)&&true) then
  some s
 else none
def Zcm (s:List V):Option (List V):=
 bif ((Zv (0+s.length) 32)&&true) then
  some s
 else none
def ZbL (s:List V):Option (List V):=
 bif ((Zv (0+s.length) 16)&&true) then
  some s
 else none
def Zcn (s:List V):Option (List V):=
 bif ((Zv (0+s.length) 32)&&true) then
  some s
 else none
def Zbb:Nat→Int→Int→V→V→List V→List V→List V→List V→List V→List V→List V→List V→Option (V×V×List V×List V×List V×List V×List V×List V×List V×List V)
 | 0,_,_,_,_,_,_,_,_,_,_,_,_=>none
 | k_+1,v25,v26,b0,b1,r2,r3,r4,r5,r6,r7,r8,r9=>
  bif (decide (v26<v25)) then
   bif (Zn v26 r2.length) then
    Option.bind (Zy (gl (rd r2 (0+v26.toNat)) 0)) fun r333=>
    Option.bind (Zy (gl (rd r2 (0+v26.toNat)) 1)) fun r334=>
    bif (Zn v26 r2.length) then
     bif (Zn v26 ((r2.set (0+v26.toNat) (V.agg [(V.inl Zc r333),(V.inl Zc (gl (rd r2 (0+v26.toNat)) 1)),(V.int .i64 (gi (rd r2 (0+v26.toNat)) 2)),(V.int .i64 (gi (rd r2 (0+v26.toNat)) 3))])).length)) then
      Zbb k_ v25 (IntKind.i64.wrap (v26+1)) (V.agg [(V.int .i64 (gi b0 0)),(V.sl 2 Zg 0 none),(V.sl 3 Zf 0 none),(V.int .i64 (gi b0 3)),(V.sl 4 Za 0 none),(V.sl 5 Ze 0 none)]) (V.agg [(V.int .i64 (gi b1 0)),(V.sl 6 Zg 0 none),(V.sl 7 Zf 0 none),(V.int .i64 (gi b1 3)),(V.sl 8 Za 0 none),(V.sl 9 Ze 0 none)]) ((r2.set (0+v26.toNat) (V.agg [(V.inl Zc r333),(V.inl Zc (gl (rd r2 (0+v26.toNat)) 1)),(V.int .i64 (gi (rd r2 (0+v26.toNat)) 2)),(V.int .i64 (gi (rd r2 (0+v26.toNat)) 3))])).set (0+v26.toNat) (V.agg [(V.inl Zc (gl (rd (r2.set (0+v26.toNat) (V.agg [(V.inl Zc r333),(V.inl Zc (gl (rd r2 (0+v26.toNat)) 1)),(V.int .i64 (gi (rd r2 (0+v26.toNat)) 2)),(V.int .i64 (gi (rd r2 (0+v26.toNat)) 3))])) (0+v26.toNat)) 0)),(V.inl Zc r334),(V.int .i64 (gi (rd (r2.set (0+v26.toNat) (V.agg [(V.inl Zc r333),(V.inl Zc (gl (rd r2 (0+v26.toNat)) 1)),(V.int .i64 (gi (rd r2 (0+v26.toNat)) 2)),(V.int .i64 (gi (rd r2 (0+v26.toNat)) 3))])) (0+v26.toNat)) 2)),(V.int .i64 (gi (rd (r2.set (0+v26.toNat) (V.agg [(V.inl Zc r333),(V.inl Zc (gl (rd r2 (0+v26.toNat)) 1)),(V.int .i64 (gi (rd r2 (0+v26.toNat)) 2)),(V.int .i64 (gi (rd r2 (0+v26.toNat)) 3))])) (0+v26.toNat)) 3))])) r3 r4 r5 r6 r7 r8 r9
     else none
    else none
   else none
  else some ((V.agg [(V.int .i64 (gi b0 0)),(V.sl 2 Zg 0 none),(V.sl 3 Zf 0 none),(V.int .i64 (gi b0 3)),(V.sl 4 Za 0 none),(V.sl 5 Ze 0 none)]),(V.agg [(V.int .i64 (gi b1 0)),(V.sl 6 Zg 0 none),(V.sl 7 Zf 0 none),(V.int .i64 (gi b1 3)),(V.sl 8 Za 0 none),(V.sl 9 Ze 0 none)]),r2,r3,r4,r5,r6,r7,r8,r9)
def Zbc:Nat→Int→Int→V→V→List V→List V→List V→List V→List V→List V→List V→List V→Option (V×V×List V×List V×List V×List V×List V×List V×List V×List V)
 | 0,_,_,_,_,_,_,_,_,_,_,_,_=>none
 | k_+1,v50,v51,b0,b1,r2,r3,r4,r5,r6,r7,r8,r9=>
  bif (decide (v51<v50)) then
   bif (Zn v51 r2.length) then
    Option.bind (Zy (gl (rd r2 (0+v51.toNat)) 0)) fun r336=>
    bif (Zn v51 r2.length) then
     Zbc k_ v50 (IntKind.i64.wrap (v51+1)) (V.agg [(V.int .i64 (gi b0 0)),(V.sl 3 Zg 0 none),(V.sl 2 Zf 0 none),(V.int .i64 (gi b0 3)),(V.sl 4 Za 0 none),(V.sl 5 Ze 0 none)]) (V.agg [(V.int .i64 (gi b1 0)),(V.sl 6 Zg 0 none),(V.sl 7 Zf 0 none),(V.int .i64 (gi b1 3)),(V.sl 8 Za 0 none),(V.sl 9 Ze 0 none)]) (r2.set (0+v51.toNat) (V.agg [(V.inl Zc r336),(V.int .i64 (gi (rd r2 (0+v51.toNat)) 1))])) r3 r4 r5 r6 r7 r8 r9
    else none
   else none
  else some ((V.agg [(V.int .i64 (gi b0 0)),(V.sl 2 Zg 0 none),(V.sl 3 Zf 0 none),(V.int .i64 (gi b0 3)),(V.sl 4 Za 0 none),(V.sl 5 Ze 0 none)]),(V.agg [(V.int .i64 (gi b1 0)),(V.sl 6 Zg 0 none),(V.sl 7 Zf 0 none),(V.int .i64 (gi b1 3)),(V.sl 8 Za 0 none),(V.sl 9 Ze 0 none)]),r3,r2,r4,r5,r6,r7,r8,r9)
def Za8 (s:V):Option (V):=
 Option.bind (ZcH (gl s 1)) fun r329=>
 Option.bind (Zcm (gl s 2)) fun r330=>
 Option.bind (ZbL (gl s 4)) fun r331=>
 Option.bind (Zcn (gl s 5)) fun r332=>
 Option.bind (Zbb ((((r329.length:Nat):Int)-0).toNat+1) ((r329.length:Nat):Int) 0 (V.agg [(V.int .i64 (gi s 0)),(V.sl 2 Zg 0 none),(V.sl 3 Zf 0 none),(V.int .i64 (gi s 3)),(V.sl 4 Za 0 none),(V.sl 5 Ze 0 none)]) (V.agg [(V.int .i64 0),(V.sl 6 Zg 0 none),(V.sl 7 Zf 0 none),(V.int .i64 0),(V.sl 8 Za 0 none),(V.sl 9 Ze 0 none)]) r329 r330 r331 r332 [] [] [] []) fun r335=>
 Option.bind (Zbc ((((r335.2.2.2.1.length:Nat):Int)-0).toNat+1) ((r335.2.2.2.1.length:Nat):Int) 0 (V.agg [(V.int .i64 (gi r335.1 0)),(V.sl 3 Zg 0 none),(V.sl 2 Zf 0 none),(V.int .i64 (gi r335.1 3)),(V.sl 4 Za 0 none),(V.sl 5 Ze 0 none)]) (V.agg [(V.int .i64 (gi r335.2.1 0)),(V.sl 6 Zg 0 none),(V.sl 7 Zf 0 none),(V.int .i64 (gi r335.2.1 3)),(V.sl 8 Za 0 none),(V.sl 9 Ze 0 none)]) r335.2.2.2.1 r335.2.2.1 r335.2.2.2.2.1 r335.2.2.2.2.2.1 r335.2.2.2.2.2.2.1 r335.2.2.2.2.2.2.2.1 r335.2.2.2.2.2.2.2.2.1 r335.2.2.2.2.2.2.2.2.2) fun r337=>
 some (V.agg [(V.int .i64 (gi r337.1 0)),(V.inl Zg r337.2.2.1),(V.inl Zf r337.2.2.2.1),(V.int .i64 (gi r337.1 3)),(V.inl Za r337.2.2.2.2.1),(V.inl Ze r337.2.2.2.2.2.1)])
def ZU (s:V) (key:List V) (val:List V):Option (Bool×V):=
 Option.bind (ZaR (Zd s) key) fun r341=>
 bif (!r341.2) then
  bif (decide ((((gl s 1).length:Nat):Int)=20)) then
   some (false,(Zd s))
  else Option.bind (Zy key) fun r342=>
  Option.bind (Zcp 64 (gl s 1) r341.1 [(V.agg [(V.inl Zc r342),(V.inl Zc []),(V.int .i64 0),(V.int .i64 0)])]) fun r343=>
  Option.bind (Zby (V.agg [(V.int .i64 (gi s 0)),(V.inl Zg r343),(V.inl Zf (gl s 2)),(V.int .i64 (gi s 3)),(V.inl Za (gl s 4)),(V.inl Ze (gl s 5))]) key) fun r344=>
  bif (decide ((0:Int)≤r344)) then
   Option.bind (Zdd (gl s 2) r344 (IntKind.i64.wrap (r344+1))) fun r345=>
   Option.bind (Zy val) fun r346=>
   bif (Zn r341.1 r343.length) then
    bif (Zn r341.1 ((r343.set (0+r341.1.toNat) (V.agg [(V.inl Zc (gl (rd r343 (0+r341.1.toNat)) 0)),(V.inl Zc r346),(V.int .i64 (gi (rd r343 (0+r341.1.toNat)) 2)),(V.int .i64 (gi (rd r343 (0+r341.1.toNat)) 3))])).length)) then
     some (true,(V.agg [(V.int .i64 (gi s 0)),(V.inl Zg ((r343.set (0+r341.1.toNat) (V.agg [(V.inl Zc (gl (rd r343 (0+r341.1.toNat)) 0)),(V.inl Zc r346),(V.int .i64 (gi (rd r343 (0+r341.1.toNat)) 2)),(V.int .i64 (gi (rd r343 (0+r341.1.toNat)) 3))])).set (0+r341.1.toNat) (V.agg [(V.inl Zc (gl (rd (r343.set (0+r341.1.toNat) (V.agg [(V.inl Zc (gl (rd r343 (0+r341.1.toNat)) 0)),(V.inl Zc r346),(V.int .i64 (gi (rd r343 (0+r341.1.toNat)) 2)),(V.int .i64 (gi (rd r343 (0+r341.1.toNat)) 3))])) (0+r341.1.toNat)) 0)),(V.inl Zc (gl (rd (r343.set (0+r341.1.toNat) (V.agg [(V.inl Zc (gl (rd r343 (0+r341.1.toNat)) 0)),(V.inl Zc r346),(V.int .i64 (gi (rd r343 (0+r341.1.toNat)) 2)),(V.int .i64 (gi (rd r343 (0+r341.1.toNat)) 3))])) (0+r341.1.toNat)) 1)),(V.int .i64 (gi s 0)),(V.int .i64 (gi (rd (r343.set (0+r341.1.toNat) (V.agg [(V.inl Zc (gl (rd r343 (0+r341.1.toNat)) 0)),(V.inl Zc r346),(V.int .i64 (gi (rd r343 (0+r341.1.toNat)) 2)),(V.int .i64 (gi (rd r343 (0+r341.1.toNat)) 3))])) (0+r341.1.toNat)) 3))]))),(V.inl Zf r345),(V.int .i64 (gi s 3)),(V.inl Za (gl s 4)),(V.inl Ze (gl s 5))]))
    else none
   else none
  else Option.bind (Zy val) fun r347=>
  bif (Zn r341.1 r343.length) then
   bif (Zn r341.1 ((r343.set (0+r341.1.toNat) (V.agg [(V.inl Zc (gl (rd r343 (0+r341.1.toNat)) 0)),(V.inl Zc r347),(V.int .i64 (gi (rd r343 (0+r341.1.toNat)) 2)),(V.int .i64 (gi (rd r343 (0+r341.1.toNat)) 3))])).length)) then
    some (true,(V.agg [(V.int .i64 (gi s 0)),(V.inl Zg ((r343.set (0+r341.1.toNat) (V.agg [(V.inl Zc (gl (rd r343 (0+r341.1.toNat)) 0)),(V.inl Zc r347),(V.int .i64 (gi (rd r343 (0+r341.1.toNat)) 2)),(V.int .i64 (gi (rd r343 (0+r341.1.toNat)) 3))])).set (0+r341.1.toNat) (V.agg [(V.inl Zc (gl (rd (r343.set (0+r341.1.toNat) (V.agg [(V.inl Zc (gl (rd r343 (0+r341.1.toNat)) 0)),(V.inl Zc r347),(V.int .i64 (gi (rd r343 (0+r341.1.toNat)) 2)),(V.int .i64 (gi (rd r343 (0+r341.1.toNat)) 3))])) (0+r341.1.toNat)) 0)),(V.inl Zc (gl (rd (r343.set (0+r341.1.toNat) (V.agg [(V.inl Zc (gl (rd r343 (0+r341.1.toNat)) 0)),(V.inl Zc r347),(V.int .i64 (gi (rd r343 (0+r341.1.toNat)) 2)),(V.int .i64 (gi (rd r343 (0+r341.1.toNat)) 3))])) (0+r341.1.toNat)) 1)),(V.int .i64 (gi s 0)),(V.int .i64 (gi (rd (r343.set (0+r341.1.toNat) (V.agg [(V.inl Zc (gl (rd r343 (0+r341.1.toNat)) 0)),(V.inl Zc r347),(V.int .i64 (gi (rd r343 (0+r341.1.toNat)) 2)),(V.int .i64 (gi (rd r343 (0+r341.1.toNat)) 3))])) (0+r341.1.toNat)) 3))]))),(V.inl Zf (gl s 2)),(V.int .i64 (gi s 3)),(V.inl Za (gl s 4)),(V.inl Ze (gl s 5))]))
   else none
  else none
 else Option.bind (Zy val) fun r348=>
 bif (Zn r341.1 ((gl s 1).length)) then
  bif (Zn r341.1 (((gl s 1).set (0+r341.1.toNat) (V.agg [(V.inl Zc (gl (rd (gl s 1) (0+r341.1.toNat)) 0)),(V.inl Zc r348),(V.int .i64 (gi (rd (gl s 1) (0+r341.1.toNat)) 2)),(V.int .i64 (gi (rd (gl s 1) (0+r341.1.toNat)) 3))])).length)) then
   some (true,(V.agg [(V.int .i64 (gi s 0)),(V.inl Zg (((gl s 1).set (0+r341.1.toNat) (V.agg [(V.inl Zc (gl (rd (gl s 1) (0+r341.1.toNat)) 0)),(V.inl Zc r348),(V.int .i64 (gi (rd (gl s 1) (0+r341.1.toNat)) 2)),(V.int .i64 (gi (rd (gl s 1) (0+r341.1.toNat)) 3))])).set (0+r341.1.toNat) (V.agg [(V.inl Zc (gl (rd ((gl s 1).set (0+r341.1.toNat) (V.agg [(V.inl Zc (gl (rd (gl s 1) (0+r341.1.toNat)) 0)),(V.inl Zc r348),(V.int .i64 (gi (rd (gl s 1) (0+r341.1.toNat)) 2)),(V.int .i64 (gi (rd (gl s 1) (0+r341.1.toNat)) 3))])) (0+r341.1.toNat)) 0)),(V.inl Zc (gl (rd ((gl s 1).set (0+r341.1.toNat) (V.agg [(V.inl Zc (gl (rd (gl s 1) (0+r341.1.toNat)) 0)),(V.inl Zc r348),(V.int .i64 (gi (rd (gl s 1) (0+r341.1.toNat)) 2)),(V.int .i64 (gi (rd (gl s 1) (0+r341.1.toNat)) 3))])) (0+r341.1.toNat)) 1)),(V.int .i64 (gi s 0)),(V.int .i64 (gi (rd ((gl s 1).set (0+r341.1.toNat) (V.agg [(V.inl Zc (gl (rd (gl s 1) (0+r341.1.toNat)) 0)),(V.inl Zc r348),(V.int .i64 (gi (rd (gl s 1) (0+r341.1.toNat)) 2)),(V.int .i64 (gi (rd (gl s 1) (0+r341.1.toNat)) 3))])) (0+r341.1.toNat)) 3))]))),(V.inl Zf (gl s 2)),(V.int .i64 (gi s 3)),(V.inl Za (gl s 4)),(V.inl Ze (gl s 5))]))
  else none
 else none
def Z3:Nat→V→List V→List V→List V→List V→Option (V×List V×List V×List V×List V)
 | 0,_,_,_,_,_=>none
 | k_+1,b0,r1,r2,r3,r4=>
  bif (decide ((10:Int)<((r2.length:Nat):Int))) then
   bif (Zn 0 r2.length) then
    Option.bind (Zdd r2 0 1) fun r358=>
    Z3 k_ (V.agg [(V.int .i64 (gi b0 0)),(V.sl 1 Zg 0 none),(V.sl 2 Zf 0 none),(V.int .i64 (gi (rd r2 0) 1)),(V.sl 3 Za 0 none),(V.sl 4 Ze 0 none)]) r1 r358 r3 r4
   else none
  else some ((V.agg [(V.int .i64 (gi b0 0)),(V.sl 1 Zg 0 none),(V.sl 2 Zf 0 none),(V.int .i64 (gi b0 3)),(V.sl 3 Za 0 none),(V.sl 4 Ze 0 none)]),r1,r2,r3,r4)
def Zbv (s:V) (k:Int):Option (V):=
 bif (Zn k ((gl s 1).length)) then
  bif ((Zv (((gl s 2).length)+1) 32)&&true) then
   Option.bind (Zdd (gl s 1) k (IntKind.i64.wrap (k+1))) fun r357=>
   Option.bind (Z3 ((((((gl s 2)++[(V.agg [(V.inl Zc (gl (rd (gl s 1) (0+k.toNat)) 0)),(V.int .i64 (gi s 0))])]).length:Nat):Int)-10).toNat+1) (V.agg [(V.int .i64 (gi s 0)),(V.sl 1 Zg 0 none),(V.sl 2 Zf 0 none),(V.int .i64 (gi s 3)),(V.sl 3 Za 0 none),(V.sl 4 Ze 0 none)]) r357 ((gl s 2)++[(V.agg [(V.inl Zc (gl (rd (gl s 1) (0+k.toNat)) 0)),(V.int .i64 (gi s 0))])]) (gl s 4) (gl s 5)) fun r359=>
   some (V.agg [(V.int .i64 (gi r359.1 0)),(V.inl Zg r359.2.1),(V.inl Zf r359.2.2.1),(V.int .i64 (gi r359.1 3)),(V.inl Za r359.2.2.2.1),(V.inl Ze r359.2.2.2.2)])
  else none
 else none
def Z7:Nat→Int→Bool→Int→V→List V→List V→List V→List V→Option (V×List V×List V×List V×List V)
 | 0,_,_,_,_,_,_,_,_=>none
 | k_+1,id1,remove6,k7,b0,r1,r2,r3,r4=>
  bif (decide (k7<((r1.length:Nat):Int))) then
   bif (Zn k7 r1.length) then
    bif (!(decide ((gi (rd r1 (0+k7.toNat)) 3)=id1))) then
     Z7 k_ id1 remove6 (IntKind.i64.wrap (k7+1)) (V.agg [(V.int .i64 (gi b0 0)),(V.sl 1 Zg 0 none),(V.sl 2 Zf 0 none),(V.int .i64 (gi b0 3)),(V.sl 3 Za 0 none),(V.sl 4 Ze 0 none)]) r1 r2 r3 r4
    else bif remove6 then
     Option.bind (Zbv (V.agg [(V.int .i64 (gi b0 0)),(V.inl Zg r1),(V.inl Zf r2),(V.int .i64 (gi b0 3)),(V.inl Za r3),(V.inl Ze r4)]) k7) fun r363=>
     Z7 k_ id1 remove6 (IntKind.i64.wrap ((IntKind.i64.wrap (k7-1))+1)) (V.agg [(V.int .i64 (gi r363 0)),(V.sl 1 Zg 0 none),(V.sl 2 Zf 0 none),(V.int .i64 (gi r363 3)),(V.sl 3 Za 0 none),(V.sl 4 Ze 0 none)]) (gl r363 1) (gl r363 2) (gl r363 4) (gl r363 5)
    else bif (Zn k7 r1.length) then
     bif (Zn k7 ((r1.set (0+k7.toNat) (V.agg [(V.inl Zc (gl (rd r1 (0+k7.toNat)) 0)),(V.inl Zc (gl (rd r1 (0+k7.toNat)) 1)),(V.int .i64 (gi (rd r1 (0+k7.toNat)) 2)),(V.int .i64 0)])).length)) then
      Z7 k_ id1 remove6 (IntKind.i64.wrap (k7+1)) (V.agg [(V.int .i64 (gi b0 0)),(V.sl 1 Zg 0 none),(V.sl 2 Zf 0 none),(V.int .i64 (gi b0 3)),(V.sl 3 Za 0 none),(V.sl 4 Ze 0 none)]) ((r1.set (0+k7.toNat) (V.agg [(V.inl Zc (gl (rd r1 (0+k7.toNat)) 0)),(V.inl Zc (gl (rd r1 (0+k7.toNat)) 1)),(V.int .i64 (gi (rd r1 (0+k7.toNat)) 2)),(V.int .i64 0)])).set (0+k7.toNat) (V.agg [(V.inl Zc (gl (rd (r1.set (0+k7.toNat) (V.agg [(V.inl Zc (gl (rd r1 (0+k7.toNat)) 0)),(V.inl Zc (gl (rd r1 (0+k7.toNat)) 1)),(V.int .i64 (gi (rd r1 (0+k7.toNat)) 2)),(V.int .i64 0)])) (0+k7.toNat)) 0)),(V.inl Zc (gl (rd (r1.set (0+k7.toNat) (V.agg [(V.inl Zc (gl (rd r1 (0+k7.toNat)) 0)),(V.inl Zc (gl (rd r1 (0+k7.toNat)) 1)),(V.int .i64 (gi (rd r1 (0+k7.toNat)) 2)),(V.int .i64 0)])) (0+k7.toNat)) 1)),(V.int .i64 (gi b0 0)),(V.int .i64 (gi (rd (r1.set (0+k7.toNat) (V.agg [(V.inl Zc (gl (rd r1 (0+k7.toNat)) 0)),(V.inl Zc (gl (rd r1 (0+k7.toNat)) 1)),(V.int .i64 (gi (rd r1 (0+k7.toNat)) 2)),(V.int .i64 0)])) (0+k7.toNat)) 3))])) r2 r3 r4
     else none
    else none
   else none
  else some ((V.agg [(V.int .i64 (gi b0 0)),(V.sl 1 Zg 0 none),(V.sl 2 Zf 0 none),(V.int .i64 (gi b0 3)),(V.sl 3 Za 0 none),(V.sl 4 Ze 0 none)]),r1,r2,r3,r4)
def ZbM (s:V) (id:Int):Option (Int×V):=
 Option.bind (Zal (Zd s) id) fun r361=>
 bif (decide (r361<0)) then
  some (1,(Zd s))
 else bif (Zn r361 ((gl s 4).length)) then
  Option.bind (Zdd (gl s 4) r361 (IntKind.i64.wrap (r361+1))) fun r362=>
  Option.bind (Z7 (((((gl s 1).length:Nat):Int)-0).toNat+1) id (gb (rd (gl s 4) (0+r361.toNat)) 1) 0 (V.agg [(V.int .i64 (gi s 0)),(V.sl 1 Zg 0 none),(V.sl 2 Zf 0 none),(V.int .i64 (gi s 3)),(V.sl 3 Za 0 none),(V.sl 4 Ze 0 none)]) (gl s 1) (gl s 2) r362 (gl s 5)) fun r364=>
  some (0,(V.agg [(V.int .i64 (gi r364.1 0)),(V.inl Zg r364.2.1),(V.inl Zf r364.2.2.1),(V.int .i64 (gi r364.1 3)),(V.inl Za r364.2.2.2.1),(V.inl Ze r364.2.2.2.2)]))
 else none
def Zbn (s:V) (o:V):Option (Int×V):=
 Option.bind (ZaR (Zd s) (gl o 1)) fun r340=>
 bif (decide ((gi o 0)=1)) then
  bif r340.2 then
   bif (Zn r340.1 ((gl s 1).length)) then
    bif (decide ((gi o 0)=2)) then
     bif (!(decide ((gi (rd (gl s 1) (0+r340.1.toNat)) 2)=(gi o 3)))) then
      some (3,(Zd s))
     else Option.bind (ZU (Zd s) (gl o 1) (gl o 2)) fun r349=>
     bif (!r349.1) then
      some (4,(Zd r349.2))
     else some (0,(Zd r349.2))
    else Option.bind (ZU (Zd s) (gl o 1) (gl o 2)) fun r350=>
    bif (!r350.1) then
     some (4,(Zd r350.2))
    else some (0,(Zd r350.2))
   else none
  else bif (decide ((gi o 0)=2)) then
   bif (!(decide ((0:Int)=(gi o 3)))) then
    some (3,(Zd s))
   else Option.bind (ZU (Zd s) (gl o 1) (gl o 2)) fun r351=>
   bif (!r351.1) then
    some (4,(Zd r351.2))
   else some (0,(Zd r351.2))
  else Option.bind (ZU (Zd s) (gl o 1) (gl o 2)) fun r352=>
  bif (!r352.1) then
   some (4,(Zd r352.2))
  else some (0,(Zd r352.2))
 else bif (decide ((gi o 0)=2)) then
  bif r340.2 then
   bif (Zn r340.1 ((gl s 1).length)) then
    bif (decide ((gi o 0)=2)) then
     bif (!(decide ((gi (rd (gl s 1) (0+r340.1.toNat)) 2)=(gi o 3)))) then
      some (3,(Zd s))
     else Option.bind (ZU (Zd s) (gl o 1) (gl o 2)) fun r353=>
     bif (!r353.1) then
      some (4,(Zd r353.2))
     else some (0,(Zd r353.2))
    else Option.bind (ZU (Zd s) (gl o 1) (gl o 2)) fun r354=>
    bif (!r354.1) then
     some (4,(Zd r354.2))
    else some (0,(Zd r354.2))
   else none
  else bif (decide ((gi o 0)=2)) then
   bif (!(decide ((0:Int)=(gi o 3)))) then
    some (3,(Zd s))
   else Option.bind (ZU (Zd s) (gl o 1) (gl o 2)) fun r355=>
   bif (!r355.1) then
    some (4,(Zd r355.2))
   else some (0,(Zd r355.2))
  else Option.bind (ZU (Zd s) (gl o 1) (gl o 2)) fun r356=>
  bif (!r356.1) then
   some (4,(Zd r356.2))
  else some (0,(Zd r356.2))
 else bif (decide ((gi o 0)=3)) then
  bif (!r340.2) then
   some (1,(Zd s))
  else Option.bind (Zbv (Zd s) r340.1) fun r360=>
  some (0,(Zd r360))
 else bif (decide ((gi o 0)=4)) then
  bif (decide ((((gl s 4).length:Nat):Int)=8)) then
   some (4,(Zd s))
  else bif ((Zv (((gl s 4).length)+1) 16)&&true) then
   some (0,(V.agg [(V.int .i64 (gi s 0)),(V.inl Zg (gl s 1)),(V.inl Zf (gl s 2)),(V.int .i64 (gi s 3)),(V.inl Za ((gl s 4)++[(V.agg [(V.int .i64 (gi s 0)),(V.bool (decide ((gi o 3)=1)))])])),(V.inl Ze (gl s 5))]))
  else none
 else bif (decide ((gi o 0)=5)) then
  Option.bind (ZbM (Zd s) (gi o 3)) fun r365=>
  some (r365.1,(Zd r365.2))
 else bif (decide ((gi o 0)=6)) then
  Option.bind (Zal (Zd s) (gi o 3)) fun r366=>
  bif (decide (r366<0)) then
   some (1,(Zd s))
  else bif r340.2 then
   bif (Zn r340.1 ((gl s 1).length)) then
    bif (!(decide ((gi (rd (gl s 1) (0+r340.1.toNat)) 3)=0))) then
     bif (Zn r340.1 ((gl s 1).length)) then
      bif (!(decide ((gi (rd (gl s 1) (0+r340.1.toNat)) 3)=(gi o 3)))) then
       some (2,(Zd s))
      else Option.bind (ZU (Zd s) (gl o 1) (gl o 2)) fun r367=>
      bif (!r367.1) then
       some (4,(Zd r367.2))
      else bif (Zn r340.1 ((gl r367.2 1).length)) then
       some (0,(V.agg [(V.int .i64 (gi r367.2 0)),(V.inl Zg ((gl r367.2 1).set (0+r340.1.toNat) (V.agg [(V.inl Zc (gl (rd (gl r367.2 1) (0+r340.1.toNat)) 0)),(V.inl Zc (gl (rd (gl r367.2 1) (0+r340.1.toNat)) 1)),(V.int .i64 (gi (rd (gl r367.2 1) (0+r340.1.toNat)) 2)),(V.int .i64 (gi o 3))]))),(V.inl Zf (gl r367.2 2)),(V.int .i64 (gi r367.2 3)),(V.inl Za (gl r367.2 4)),(V.inl Ze (gl r367.2 5))]))
      else none
     else none
    else Option.bind (ZU (Zd s) (gl o 1) (gl o 2)) fun r368=>
    bif (!r368.1) then
     some (4,(Zd r368.2))
    else bif (Zn r340.1 ((gl r368.2 1).length)) then
     some (0,(V.agg [(V.int .i64 (gi r368.2 0)),(V.inl Zg ((gl r368.2 1).set (0+r340.1.toNat) (V.agg [(V.inl Zc (gl (rd (gl r368.2 1) (0+r340.1.toNat)) 0)),(V.inl Zc (gl (rd (gl r368.2 1) (0+r340.1.toNat)) 1)),(V.int .i64 (gi (rd (gl r368.2 1) (0+r340.1.toNat)) 2)),(V.int .i64 (gi o 3))]))),(V.inl Zf (gl r368.2 2)),(V.int .i64 (gi r368.2 3)),(V.inl Za (gl r368.2 4)),(V.inl Ze (gl r368.2 5))]))
    else none
   else none
  else Option.bind (ZU (Zd s) (gl o 1) (gl o 2)) fun r369=>
  bif (!r369.1) then
   some (4,(Zd r369.2))
  else bif (Zn r340.1 ((gl r369.2 1).length)) then
   some (0,(V.agg [(V.int .i64 (gi r369.2 0)),(V.inl Zg ((gl r369.2 1).set (0+r340.1.toNat) (V.agg [(V.inl Zc (gl (rd (gl r369.2 1) (0+r340.1.toNat)) 0)),(V.inl Zc (gl (rd (gl r369.2 1) (0+r340.1.toNat)) 1)),(V.int .i64 (gi (rd (gl r369.2 1) (0+r340.1.toNat)) 2)),(V.int .i64 (gi o 3))]))),(V.inl Zf (gl r369.2 2)),(V.int .i64 (gi r369.2 3)),(V.inl Za (gl r369.2 4)),(V.inl Ze (gl r369.2 5))]))
  else none
 else bif (decide ((gi o 0)=7)) then
  bif (!r340.2) then
   some (1,(Zd s))
  else bif (Zn r340.1 ((gl s 1).length)) then
   bif (!(decide ((gi (rd (gl s 1) (0+r340.1.toNat)) 3)=(gi o 3)))) then
    some (1,(Zd s))
   else bif (Zn r340.1 ((gl s 1).length)) then
    bif (Zn r340.1 (((gl s 1).set (0+r340.1.toNat) (V.agg [(V.inl Zc (gl (rd (gl s 1) (0+r340.1.toNat)) 0)),(V.inl Zc (gl (rd (gl s 1) (0+r340.1.toNat)) 1)),(V.int .i64 (gi (rd (gl s 1) (0+r340.1.toNat)) 2)),(V.int .i64 0)])).length)) then
     some (0,(V.agg [(V.int .i64 (gi s 0)),(V.inl Zg (((gl s 1).set (0+r340.1.toNat) (V.agg [(V.inl Zc (gl (rd (gl s 1) (0+r340.1.toNat)) 0)),(V.inl Zc (gl (rd (gl s 1) (0+r340.1.toNat)) 1)),(V.int .i64 (gi (rd (gl s 1) (0+r340.1.toNat)) 2)),(V.int .i64 0)])).set (0+r340.1.toNat) (V.agg [(V.inl Zc (gl (rd ((gl s 1).set (0+r340.1.toNat) (V.agg [(V.inl Zc (gl (rd (gl s 1) (0+r340.1.toNat)) 0)),(V.inl Zc (gl (rd (gl s 1) (0+r340.1.toNat)) 1)),(V.int .i64 (gi (rd (gl s 1) (0+r340.1.toNat)) 2)),(V.int .i64 0)])) (0+r340.1.toNat)) 0)),(V.inl Zc (gl (rd ((gl s 1).set (0+r340.1.toNat) (V.agg [(V.inl Zc (gl (rd (gl s 1) (0+r340.1.toNat)) 0)),(V.inl Zc (gl (rd (gl s 1) (0+r340.1.toNat)) 1)),(V.int .i64 (gi (rd (gl s 1) (0+r340.1.toNat)) 2)),(V.int .i64 0)])) (0+r340.1.toNat)) 1)),(V.int .i64 (gi s 0)),(V.int .i64 (gi (rd ((gl s 1).set (0+r340.1.toNat) (V.agg [(V.inl Zc (gl (rd (gl s 1) (0+r340.1.toNat)) 0)),(V.inl Zc (gl (rd (gl s 1) (0+r340.1.toNat)) 1)),(V.int .i64 (gi (rd (gl s 1) (0+r340.1.toNat)) 2)),(V.int .i64 0)])) (0+r340.1.toNat)) 3))]))),(V.inl Zf (gl s 2)),(V.int .i64 (gi s 3)),(V.inl Za (gl s 4)),(V.inl Ze (gl s 5))]))
    else none
   else none
  else none
 else some (0,(Zd s))
def Za4 (s:V) (c:V):Option (V×V):=
 bif (decide ((gi c 0)<0)) then
  some ((V.agg [(V.int .i64 0),(V.int .i64 (IntKind.i64.wrap ((gi s 0)+1)))]),(V.agg [(V.int .i64 (IntKind.i64.wrap ((gi s 0)+1))),(V.inl Zg (gl s 1)),(V.inl Zf (gl s 2)),(V.int .i64 (gi s 3)),(V.inl Za (gl s 4)),(V.inl Ze (gl s 5))]))
 else Option.bind (Zcd (V.agg [(V.int .i64 (IntKind.i64.wrap ((gi s 0)+1))),(V.inl Zg (gl s 1)),(V.inl Zf (gl s 2)),(V.int .i64 (gi s 3)),(V.inl Za (gl s 4)),(V.inl Ze (gl s 5))]) (gi c 0)) fun r339=>
 bif r339.2 then
  bif (Zn r339.1 ((gl s 5).length)) then
   bif (decide ((gi (rd (gl s 5) (0+r339.1.toNat)) 1)=(gi c 1))) then
    bif (Zn r339.1 ((gl s 5).length)) then
     some ((V.agg [(V.int .i64 (gi (rd (gl s 5) (0+r339.1.toNat)) 2)),(V.int .i64 (gi (rd (gl s 5) (0+r339.1.toNat)) 3))]),(V.agg [(V.int .i64 (IntKind.i64.wrap ((gi s 0)+1))),(V.inl Zg (gl s 1)),(V.inl Zf (gl s 2)),(V.int .i64 (gi s 3)),(V.inl Za (gl s 4)),(V.inl Ze (gl s 5))]))
    else none
   else bif r339.2 then
    bif (Zn r339.1 ((gl s 5).length)) then
     bif (decide ((gi c 1)<(gi (rd (gl s 5) (0+r339.1.toNat)) 1))) then
      some ((V.agg [(V.int .i64 5),(V.int .i64 (IntKind.i64.wrap ((gi s 0)+1)))]),(V.agg [(V.int .i64 (IntKind.i64.wrap ((gi s 0)+1))),(V.inl Zg (gl s 1)),(V.inl Zf (gl s 2)),(V.int .i64 (gi s 3)),(V.inl Za (gl s 4)),(V.inl Ze (gl s 5))]))
     else Option.bind (Zbn (V.agg [(V.int .i64 (IntKind.i64.wrap ((gi s 0)+1))),(V.inl Zg (gl s 1)),(V.inl Zf (gl s 2)),(V.int .i64 (gi s 3)),(V.inl Za (gl s 4)),(V.inl Ze (gl s 5))]) (V.agg [(V.int .i64 (gi c 2)),(V.inl Zc (gl c 3)),(V.inl Zc (gl c 4)),(V.int .i64 (gi c 5))])) fun r370=>
     bif r339.2 then
      bif (Zn r339.1 ((gl r370.2 5).length)) then
       some ((V.agg [(V.int .i64 r370.1),(V.int .i64 (IntKind.i64.wrap ((gi s 0)+1)))]),(V.agg [(V.int .i64 (gi r370.2 0)),(V.inl Zg (gl r370.2 1)),(V.inl Zf (gl r370.2 2)),(V.int .i64 (gi r370.2 3)),(V.inl Za (gl r370.2 4)),(V.inl Ze ((gl r370.2 5).set (0+r339.1.toNat) (V.agg [(V.int .i64 (gi c 0)),(V.int .i64 (gi c 1)),(V.int .i64 r370.1),(V.int .i64 (IntKind.i64.wrap ((gi s 0)+1)))])))]))
      else none
     else Option.bind (Zcp 32 (gl r370.2 5) r339.1 [(V.agg [(V.int .i64 (gi c 0)),(V.int .i64 (gi c 1)),(V.int .i64 r370.1),(V.int .i64 (IntKind.i64.wrap ((gi s 0)+1)))])]) fun r371=>
     some ((V.agg [(V.int .i64 r370.1),(V.int .i64 (IntKind.i64.wrap ((gi s 0)+1)))]),(V.agg [(V.int .i64 (gi r370.2 0)),(V.inl Zg (gl r370.2 1)),(V.inl Zf (gl r370.2 2)),(V.int .i64 (gi r370.2 3)),(V.inl Za (gl r370.2 4)),(V.inl Ze r371)]))
    else none
   else Option.bind (Zbn (V.agg [(V.int .i64 (IntKind.i64.wrap ((gi s 0)+1))),(V.inl Zg (gl s 1)),(V.inl Zf (gl s 2)),(V.int .i64 (gi s 3)),(V.inl Za (gl s 4)),(V.inl Ze (gl s 5))]) (V.agg [(V.int .i64 (gi c 2)),(V.inl Zc (gl c 3)),(V.inl Zc (gl c 4)),(V.int .i64 (gi c 5))])) fun r372=>
   bif r339.2 then
    bif (Zn r339.1 ((gl r372.2 5).length)) then
     some ((V.agg [(V.int .i64 r372.1),(V.int .i64 (IntKind.i64.wrap ((gi s 0)+1)))]),(V.agg [(V.int .i64 (gi r372.2 0)),(V.inl Zg (gl r372.2 1)),(V.inl Zf (gl r372.2 2)),(V.int .i64 (gi r372.2 3)),(V.inl Za (gl r372.2 4)),(V.inl Ze ((gl r372.2 5).set (0+r339.1.toNat) (V.agg [(V.int .i64 (gi c 0)),(V.int .i64 (gi c 1)),(V.int .i64 r372.1),(V.int .i64 (IntKind.i64.wrap ((gi s 0)+1)))])))]))
    else none
   else Option.bind (Zcp 32 (gl r372.2 5) r339.1 [(V.agg [(V.int .i64 (gi c 0)),(V.int .i64 (gi c 1)),(V.int .i64 r372.1),(V.int .i64 (IntKind.i64.wrap ((gi s 0)+1)))])]) fun r373=>
   some ((V.agg [(V.int .i64 r372.1),(V.int .i64 (IntKind.i64.wrap ((gi s 0)+1)))]),(V.agg [(V.int .i64 (gi r372.2 0)),(V.inl Zg (gl r372.2 1)),(V.inl Zf (gl r372.2 2)),(V.int .i64 (gi r372.2 3)),(V.inl Za (gl r372.2 4)),(V.inl Ze r373)]))
  else none
 else bif r339.2 then
  bif (Zn r339.1 ((gl s 5).length)) then
   bif (decide ((gi c 1)<(gi (rd (gl s 5) (0+r339.1.toNat)) 1))) then
    some ((V.agg [(V.int .i64 5),(V.int .i64 (IntKind.i64.wrap ((gi s 0)+1)))]),(V.agg [(V.int .i64 (IntKind.i64.wrap ((gi s 0)+1))),(V.inl Zg (gl s 1)),(V.inl Zf (gl s 2)),(V.int .i64 (gi s 3)),(V.inl Za (gl s 4)),(V.inl Ze (gl s 5))]))
   else Option.bind (Zbn (V.agg [(V.int .i64 (IntKind.i64.wrap ((gi s 0)+1))),(V.inl Zg (gl s 1)),(V.inl Zf (gl s 2)),(V.int .i64 (gi s 3)),(V.inl Za (gl s 4)),(V.inl Ze (gl s 5))]) (V.agg [(V.int .i64 (gi c 2)),(V.inl Zc (gl c 3)),(V.inl Zc (gl c 4)),(V.int .i64 (gi c 5))])) fun r374=>
   bif r339.2 then
    bif (Zn r339.1 ((gl r374.2 5).length)) then
     some ((V.agg [(V.int .i64 r374.1),(V.int .i64 (IntKind.i64.wrap ((gi s 0)+1)))]),(V.agg [(V.int .i64 (gi r374.2 0)),(V.inl Zg (gl r374.2 1)),(V.inl Zf (gl r374.2 2)),(V.int .i64 (gi r374.2 3)),(V.inl Za (gl r374.2 4)),(V.inl Ze ((gl r374.2 5).set (0+r339.1.toNat) (V.agg [(V.int .i64 (gi c 0)),(V.int .i64 (gi c 1)),(V.int .i64 r374.1),(V.int .i64 (IntKind.i64.wrap ((gi s 0)+1)))])))]))
    else none
   else Option.bind (Zcp 32 (gl r374.2 5) r339.1 [(V.agg [(V.int .i64 (gi c 0)),(V.int .i64 (gi c 1)),(V.int .i64 r374.1),(V.int .i64 (IntKind.i64.wrap ((gi s 0)+1)))])]) fun r375=>
   some ((V.agg [(V.int .i64 r374.1),(V.int .i64 (IntKind.i64.wrap ((gi s 0)+1)))]),(V.agg [(V.int .i64 (gi r374.2 0)),(V.inl Zg (gl r374.2 1)),(V.inl Zf (gl r374.2 2)),(V.int .i64 (gi r374.2 3)),(V.inl Za (gl r374.2 4)),(V.inl Ze r375)]))
  else none
 else Option.bind (Zbn (V.agg [(V.int .i64 (IntKind.i64.wrap ((gi s 0)+1))),(V.inl Zg (gl s 1)),(V.inl Zf (gl s 2)),(V.int .i64 (gi s 3)),(V.inl Za (gl s 4)),(V.inl Ze (gl s 5))]) (V.agg [(V.int .i64 (gi c 2)),(V.inl Zc (gl c 3)),(V.inl Zc (gl c 4)),(V.int .i64 (gi c 5))])) fun r376=>
 bif r339.2 then
  bif (Zn r339.1 ((gl r376.2 5).length)) then
   some ((V.agg [(V.int .i64 r376.1),(V.int .i64 (IntKind.i64.wrap ((gi s 0)+1)))]),(V.agg [(V.int .i64 (gi r376.2 0)),(V.inl Zg (gl r376.2 1)),(V.inl Zf (gl r376.2 2)),(V.int .i64 (gi r376.2 3)),(V.inl Za (gl r376.2 4)),(V.inl Ze ((gl r376.2 5).set (0+r339.1.toNat) (V.agg [(V.int .i64 (gi c 0)),(V.int .i64 (gi c 1)),(V.int .i64 r376.1),(V.int .i64 (IntKind.i64.wrap ((gi s 0)+1)))])))]))
  else none
 else Option.bind (Zcp 32 (gl r376.2 5) r339.1 [(V.agg [(V.int .i64 (gi c 0)),(V.int .i64 (gi c 1)),(V.int .i64 r376.1),(V.int .i64 (IntKind.i64.wrap ((gi s 0)+1)))])]) fun r377=>
 some ((V.agg [(V.int .i64 r376.1),(V.int .i64 (IntKind.i64.wrap ((gi s 0)+1)))]),(V.agg [(V.int .i64 (gi r376.2 0)),(V.inl Zg (gl r376.2 1)),(V.inl Zf (gl r376.2 2)),(V.int .i64 (gi r376.2 3)),(V.inl Za (gl r376.2 4)),(V.inl Ze r377)]))
def Zf0 (s:V) (c:V):Option (V×V):=
 Option.bind (Zdp (Zd s)) fun r323=>
 bif (!r323) then
  some ((V.agg [(V.int .i64 0),(V.inl Zg []),(V.inl Zf []),(V.int .i64 0),(V.inl Za []),(V.inl Ze [])]),(V.agg [(V.int .i64 0),(V.int .i64 0)]))
 else Option.bind (Zbd (Zl c)) fun r324=>
 bif (!r324) then
  some ((V.agg [(V.int .i64 0),(V.inl Zg []),(V.inl Zf []),(V.int .i64 0),(V.inl Za []),(V.inl Ze [])]),(V.agg [(V.int .i64 0),(V.int .i64 0)]))
 else bif (decide ((gi s 0)=1000000)) then
  some ((V.agg [(V.int .i64 0),(V.inl Zg []),(V.inl Zf []),(V.int .i64 0),(V.inl Za []),(V.inl Ze [])]),(V.agg [(V.int .i64 0),(V.int .i64 0)]))
 else Option.bind (Za8 (Zd s)) fun r338=>
 Option.bind (Za4 (Zd r338) (Zl c)) fun r378=>
 some ((Zd r378.2),(ZA r378.1))
def Zcy (a:List V) (b:List V):Bool:=
 (ZbF (a.map ZaS) (b.map ZaS))
def Zay:Nat→Int→V→V→Option (Nat×Bool×V×V)
 | 0,_,_,_=>none
 | k_+1,i5,b0,b1=>
  bif (decide (i5<(((gl b0 1).length:Nat):Int))) then
   bif (Zn i5 ((gl b0 1).length)) then
    bif (Zn i5 ((gl b1 1).length)) then
     bif (!(Zcy (gl (rd (gl b0 1) i5.toNat) 0) (gl (rd (gl b1 1) i5.toNat) 0))) then
      some (0,false,(Zd b0),(Zd b1))
     else bif (!(Zcy (gl (rd (gl b0 1) i5.toNat) 1) (gl (rd (gl b1 1) i5.toNat) 1))) then
      some (0,false,(Zd b0),(Zd b1))
     else bif (!(decide ((gi (rd (gl b0 1) i5.toNat) 2)=(gi (rd (gl b1 1) i5.toNat) 2)))) then
      some (0,false,(Zd b0),(Zd b1))
     else bif (!(decide ((gi (rd (gl b0 1) i5.toNat) 3)=(gi (rd (gl b1 1) i5.toNat) 3)))) then
      some (0,false,(Zd b0),(Zd b1))
     else Zay k_ (IntKind.i64.wrap (i5+1)) (Zd b0) (Zd b1)
    else none
   else none
  else some (1,false,(Zd b0),(Zd b1))
def Zao:Nat→Int→V→V→Option (Nat×Bool×V×V)
 | 0,_,_,_=>none
 | k_+1,i8,b0,b1=>
  bif (decide (i8<(((gl b0 2).length:Nat):Int))) then
   bif (Zn i8 ((gl b0 2).length)) then
    bif (Zn i8 ((gl b1 2).length)) then
     bif (!(Zcy (gl (rd (gl b0 2) i8.toNat) 0) (gl (rd (gl b1 2) i8.toNat) 0))) then
      some (0,false,(Zd b0),(Zd b1))
     else bif (Zn i8 ((gl b0 2).length)) then
      bif (Zn i8 ((gl b1 2).length)) then
       bif (!(decide ((gi (rd (gl b0 2) i8.toNat) 1)=(gi (rd (gl b1 2) i8.toNat) 1)))) then
        some (0,false,(Zd b0),(Zd b1))
       else Zao k_ (IntKind.i64.wrap (i8+1)) (Zd b0) (Zd b1)
      else none
     else none
    else none
   else none
  else some (1,false,(Zd b0),(Zd b1))
def Zap:Nat→Int→V→V→Option (Nat×Bool×V×V)
 | 0,_,_,_=>none
 | k_+1,i9,b0,b1=>
  bif (decide (i9<(((gl b0 4).length:Nat):Int))) then
   bif (Zn i9 ((gl b0 4).length)) then
    bif (Zn i9 ((gl b1 4).length)) then
     bif (!((decide ((gi (rd (gl b0 4) i9.toNat) 0)=(gi (rd (gl b1 4) i9.toNat) 0)))&&((gb (rd (gl b0 4) i9.toNat) 1) == (gb (rd (gl b1 4) i9.toNat) 1)))) then
      some (0,false,(Zd b0),(Zd b1))
     else Zap k_ (IntKind.i64.wrap (i9+1)) (Zd b0) (Zd b1)
    else none
   else none
  else some (1,false,(Zd b0),(Zd b1))
def Zaq:Nat→Int→V→V→Option (Nat×Bool)
 | 0,_,_,_=>none
 | k_+1,i10,b0,b1=>
  bif (decide (i10<(((gl b0 5).length:Nat):Int))) then
   bif (Zn i10 ((gl b0 5).length)) then
    bif (Zn i10 ((gl b1 5).length)) then
     bif (!((decide ((gi (rd (gl b0 5) i10.toNat) 0)=(gi (rd (gl b1 5) i10.toNat) 0)))&&((decide ((gi (rd (gl b0 5) i10.toNat) 1)=(gi (rd (gl b1 5) i10.toNat) 1)))&&((decide ((gi (rd (gl b0 5) i10.toNat) 2)=(gi (rd (gl b1 5) i10.toNat) 2)))&&(decide ((gi (rd (gl b0 5) i10.toNat) 3)=(gi (rd (gl b1 5) i10.toNat) 3))))))) then
      some (0,false)
     else Zaq k_ (IntKind.i64.wrap (i10+1)) (Zd b0) (Zd b1)
    else none
   else none
  else some (1,false)
def Zcz (a:V) (b:V):Option (Bool):=
 bif (!(decide ((gi a 0)=(gi b 0)))) then
  some false
 else bif (!(decide ((gi a 3)=(gi b 3)))) then
  some false
 else bif (!(decide ((((gl a 1).length:Nat):Int)=(((gl b 1).length:Nat):Int)))) then
  some false
 else bif (!(decide ((((gl a 2).length:Nat):Int)=(((gl b 2).length:Nat):Int)))) then
  some false
 else bif (!(decide ((((gl a 4).length:Nat):Int)=(((gl b 4).length:Nat):Int)))) then
  some false
 else bif (!(decide ((((gl a 5).length:Nat):Int)=(((gl b 5).length:Nat):Int)))) then
  some false
 else Option.bind (Zay (((((gl (Zd a) 1).length:Nat):Int)-0).toNat+1) 0 (Zd a) (Zd b)) fun r395=>
 bif (Nat.beq r395.1 0) then
  some r395.2.1
 else Option.bind (Zao (((((gl (Zd r395.2.2.1) 2).length:Nat):Int)-0).toNat+1) 0 (Zd r395.2.2.1) (Zd r395.2.2.2)) fun r396=>
 bif (Nat.beq r396.1 0) then
  some r396.2.1
 else Option.bind (Zap (((((gl (Zd r396.2.2.1) 4).length:Nat):Int)-0).toNat+1) 0 (Zd r396.2.2.1) (Zd r396.2.2.2)) fun r397=>
 bif (Nat.beq r397.1 0) then
  some r397.2.1
 else Option.bind (Zaq (((((gl (Zd r397.2.2.1) 5).length:Nat):Int)-0).toNat+1) 0 (Zd r397.2.2.1) (Zd r397.2.2.2)) fun r398=>
 bif (Nat.beq r398.1 0) then
  some r398.2
 else some true
def ZdZ (code:List V):Option (List V×Int):=
 Option.bind (ZdC code) fun r406=>
 Option.bind (ZdY code) fun r407=>
 Option.bind (ZN (Zb r406) [(V.int .i64 0),(V.int .i64 1),(V.int .i64 ((r407.length:Nat):Int)),(V.int .i64 (IntKind.i64.wrap (((r407.length:Nat):Int).tdiv 2))),(V.int .i64 (IntKind.i64.wrap (((r407.length:Nat):Int)+1))),(V.int .i64 (-1))]) fun r408=>
 some (r407,r408.1)
def ZaD:Nat→V→List V→List V→List V→List V→List V→Option (V×List V×List V×List V×List V×List V)
 | 0,_,_,_,_,_,_=>none
 | k_+1,b0,r1,r2,r3,r4,r5=>
  bif (decide ((10:Int)<((r2.length:Nat):Int))) then
   bif (Zn 0 r2.length) then
    Option.bind (Zdd r2 0 1) fun r439=>
    ZaD k_ (V.agg [(V.int .i64 (gi b0 0)),(V.sl 1 Zg 0 none),(V.sl 2 Zf 0 none),(V.int .i64 (gi (rd r2 0) 1)),(V.sl 3 Za 0 none),(V.sl 4 Ze 0 none),(V.sl 5 Zi 0 none)]) r1 r439 r3 r4 r5
   else none
  else some ((V.agg [(V.int .i64 (gi b0 0)),(V.sl 1 Zg 0 none),(V.sl 2 Zf 0 none),(V.int .i64 (gi b0 3)),(V.sl 3 Za 0 none),(V.sl 4 Ze 0 none),(V.sl 5 Zi 0 none)]),r1,r2,r3,r4,r5)
def ZbN (s:V) (k:Int):Option (V):=
 bif (Zn k ((gl s 1).length)) then
  bif ((Zv (((gl s 2).length)+1) 32)&&true) then
   Option.bind (Zdd (gl s 1) k (IntKind.i64.wrap (k+1))) fun r438=>
   Option.bind (ZaD ((((((gl s 2)++[(V.agg [(V.inl Zc (gl (rd (gl s 1) (0+k.toNat)) 0)),(V.int .i64 (gi s 0))])]).length:Nat):Int)-10).toNat+1) (V.agg [(V.int .i64 (gi s 0)),(V.sl 1 Zg 0 none),(V.sl 2 Zf 0 none),(V.int .i64 (gi s 3)),(V.sl 3 Za 0 none),(V.sl 4 Ze 0 none),(V.sl 5 Zi 0 none)]) r438 ((gl s 2)++[(V.agg [(V.inl Zc (gl (rd (gl s 1) (0+k.toNat)) 0)),(V.int .i64 (gi s 0))])]) (gl s 4) (gl s 5) (gl s 6)) fun r440=>
   some (V.agg [(V.int .i64 (gi r440.1 0)),(V.inl Zg r440.2.1),(V.inl Zf r440.2.2.1),(V.int .i64 (gi r440.1 3)),(V.inl Za r440.2.2.2.1),(V.inl Ze r440.2.2.2.2.1),(V.inl Zi r440.2.2.2.2.2)])
  else none
 else none
def ZX (s:V) (key:List V) (val:List V):Option (Bool×V):=
 Option.bind (ZaR (Zd s) key) fun r460=>
 bif (!r460.2) then
  bif (decide ((((gl s 1).length:Nat):Int)=20)) then
   some (false,(Zp s))
  else Option.bind (Zy key) fun r461=>
  Option.bind (Zcp 64 (gl s 1) r460.1 [(V.agg [(V.inl Zc r461),(V.inl Zc []),(V.int .i64 0),(V.int .i64 0)])]) fun r462=>
  Option.bind (Zby (V.agg [(V.int .i64 (gi s 0)),(V.inl Zg r462),(V.inl Zf (gl s 2)),(V.int .i64 (gi s 3)),(V.inl Za (gl s 4)),(V.inl Ze (gl s 5))]) key) fun r463=>
  bif (decide ((0:Int)≤r463)) then
   Option.bind (Zdd (gl s 2) r463 (IntKind.i64.wrap (r463+1))) fun r464=>
   Option.bind (Zy val) fun r465=>
   bif (Zn r460.1 r462.length) then
    bif (Zn r460.1 ((r462.set (0+r460.1.toNat) (V.agg [(V.inl Zc (gl (rd r462 (0+r460.1.toNat)) 0)),(V.inl Zc r465),(V.int .i64 (gi (rd r462 (0+r460.1.toNat)) 2)),(V.int .i64 (gi (rd r462 (0+r460.1.toNat)) 3))])).length)) then
     some (true,(V.agg [(V.int .i64 (gi s 0)),(V.inl Zg ((r462.set (0+r460.1.toNat) (V.agg [(V.inl Zc (gl (rd r462 (0+r460.1.toNat)) 0)),(V.inl Zc r465),(V.int .i64 (gi (rd r462 (0+r460.1.toNat)) 2)),(V.int .i64 (gi (rd r462 (0+r460.1.toNat)) 3))])).set (0+r460.1.toNat) (V.agg [(V.inl Zc (gl (rd (r462.set (0+r460.1.toNat) (V.agg [(V.inl Zc (gl (rd r462 (0+r460.1.toNat)) 0)),(V.inl Zc r465),(V.int .i64 (gi (rd r462 (0+r460.1.toNat)) 2)),(V.int .i64 (gi (rd r462 (0+r460.1.toNat)) 3))])) (0+r460.1.toNat)) 0)),(V.inl Zc (gl (rd (r462.set (0+r460.1.toNat) (V.agg [(V.inl Zc (gl (rd r462 (0+r460.1.toNat)) 0)),(V.inl Zc r465),(V.int .i64 (gi (rd r462 (0+r460.1.toNat)) 2)),(V.int .i64 (gi (rd r462 (0+r460.1.toNat)) 3))])) (0+r460.1.toNat)) 1)),(V.int .i64 (gi s 0)),(V.int .i64 (gi (rd (r462.set (0+r460.1.toNat) (V.agg [(V.inl Zc (gl (rd r462 (0+r460.1.toNat)) 0)),(V.inl Zc r465),(V.int .i64 (gi (rd r462 (0+r460.1.toNat)) 2)),(V.int .i64 (gi (rd r462 (0+r460.1.toNat)) 3))])) (0+r460.1.toNat)) 3))]))),(V.inl Zf r464),(V.int .i64 (gi s 3)),(V.inl Za (gl s 4)),(V.inl Ze (gl s 5)),(V.inl Zi (gl s 6))]))
    else none
   else none
  else Option.bind (Zy val) fun r466=>
  bif (Zn r460.1 r462.length) then
   bif (Zn r460.1 ((r462.set (0+r460.1.toNat) (V.agg [(V.inl Zc (gl (rd r462 (0+r460.1.toNat)) 0)),(V.inl Zc r466),(V.int .i64 (gi (rd r462 (0+r460.1.toNat)) 2)),(V.int .i64 (gi (rd r462 (0+r460.1.toNat)) 3))])).length)) then
    some (true,(V.agg [(V.int .i64 (gi s 0)),(V.inl Zg ((r462.set (0+r460.1.toNat) (V.agg [(V.inl Zc (gl (rd r462 (0+r460.1.toNat)) 0)),(V.inl Zc r466),(V.int .i64 (gi (rd r462 (0+r460.1.toNat)) 2)),(V.int .i64 (gi (rd r462 (0+r460.1.toNat)) 3))])).set (0+r460.1.toNat) (V.agg [(V.inl Zc (gl (rd (r462.set (0+r460.1.toNat) (V.agg [(V.inl Zc (gl (rd r462 (0+r460.1.toNat)) 0)),(V.inl Zc r466),(V.int .i64 (gi (rd r462 (0+r460.1.toNat)) 2)),(V.int .i64 (gi (rd r462 (0+r460.1.toNat)) 3))])) (0+r460.1.toNat)) 0)),(V.inl Zc (gl (rd (r462.set (0+r460.1.toNat) (V.agg [(V.inl Zc (gl (rd r462 (0+r460.1.toNat)) 0)),(V.inl Zc r466),(V.int .i64 (gi (rd r462 (0+r460.1.toNat)) 2)),(V.int .i64 (gi (rd r462 (0+r460.1.toNat)) 3))])) (0+r460.1.toNat)) 1)),(V.int .i64 (gi s 0)),(V.int .i64 (gi (rd (r462.set (0+r460.1.toNat) (V.agg [(V.inl Zc (gl (rd r462 (0+r460.1.toNat)) 0)),(V.inl Zc r466),(V.int .i64 (gi (rd r462 (0+r460.1.toNat)) 2)),(V.int .i64 (gi (rd r462 (0+r460.1.toNat)) 3))])) (0+r460.1.toNat)) 3))]))),(V.inl Zf (gl s 2)),(V.int .i64 (gi s 3)),(V.inl Za (gl s 4)),(V.inl Ze (gl s 5)),(V.inl Zi (gl s 6))]))
   else none
  else none
 else Option.bind (Zy val) fun r467=>
 bif (Zn r460.1 ((gl s 1).length)) then
  bif (Zn r460.1 (((gl s 1).set (0+r460.1.toNat) (V.agg [(V.inl Zc (gl (rd (gl s 1) (0+r460.1.toNat)) 0)),(V.inl Zc r467),(V.int .i64 (gi (rd (gl s 1) (0+r460.1.toNat)) 2)),(V.int .i64 (gi (rd (gl s 1) (0+r460.1.toNat)) 3))])).length)) then
   some (true,(V.agg [(V.int .i64 (gi s 0)),(V.inl Zg (((gl s 1).set (0+r460.1.toNat) (V.agg [(V.inl Zc (gl (rd (gl s 1) (0+r460.1.toNat)) 0)),(V.inl Zc r467),(V.int .i64 (gi (rd (gl s 1) (0+r460.1.toNat)) 2)),(V.int .i64 (gi (rd (gl s 1) (0+r460.1.toNat)) 3))])).set (0+r460.1.toNat) (V.agg [(V.inl Zc (gl (rd ((gl s 1).set (0+r460.1.toNat) (V.agg [(V.inl Zc (gl (rd (gl s 1) (0+r460.1.toNat)) 0)),(V.inl Zc r467),(V.int .i64 (gi (rd (gl s 1) (0+r460.1.toNat)) 2)),(V.int .i64 (gi (rd (gl s 1) (0+r460.1.toNat)) 3))])) (0+r460.1.toNat)) 0)),(V.inl Zc (gl (rd ((gl s 1).set (0+r460.1.toNat) (V.agg [(V.inl Zc (gl (rd (gl s 1) (0+r460.1.toNat)) 0)),(V.inl Zc r467),(V.int .i64 (gi (rd (gl s 1) (0+r460.1.toNat)) 2)),(V.int .i64 (gi (rd (gl s 1) (0+r460.1.toNat)) 3))])) (0+r460.1.toNat)) 1)),(V.int .i64 (gi s 0)),(V.int .i64 (gi (rd ((gl s 1).set (0+r460.1.toNat) (V.agg [(V.inl Zc (gl (rd (gl s 1) (0+r460.1.toNat)) 0)),(V.inl Zc r467),(V.int .i64 (gi (rd (gl s 1) (0+r460.1.toNat)) 2)),(V.int .i64 (gi (rd (gl s 1) (0+r460.1.toNat)) 3))])) (0+r460.1.toNat)) 3))]))),(V.inl Zf (gl s 2)),(V.int .i64 (gi s 3)),(V.inl Za (gl s 4)),(V.inl Ze (gl s 5)),(V.inl Zi (gl s 6))]))
  else none
 else none
def Zam:Nat→Int→Bool→Int→V→List V→List V→List V→List V→List V→Option (V×List V×List V×List V×List V×List V)
 | 0,_,_,_,_,_,_,_,_,_=>none
 | k_+1,id1,remove6,k7,b0,r1,r2,r3,r4,r5=>
  bif (decide (k7<((r1.length:Nat):Int))) then
   bif (Zn k7 r1.length) then
    bif (!(decide ((gi (rd r1 (0+k7.toNat)) 3)=id1))) then
     Zam k_ id1 remove6 (IntKind.i64.wrap (k7+1)) (V.agg [(V.int .i64 (gi b0 0)),(V.sl 1 Zg 0 none),(V.sl 2 Zf 0 none),(V.int .i64 (gi b0 3)),(V.sl 3 Za 0 none),(V.sl 4 Ze 0 none),(V.sl 5 Zi 0 none)]) r1 r2 r3 r4 r5
    else bif remove6 then
     Option.bind (ZbN (V.agg [(V.int .i64 (gi b0 0)),(V.inl Zg r1),(V.inl Zf r2),(V.int .i64 (gi b0 3)),(V.inl Za r3),(V.inl Ze r4),(V.inl Zi r5)]) k7) fun r479=>
     Zam k_ id1 remove6 (IntKind.i64.wrap ((IntKind.i64.wrap (k7-1))+1)) (V.agg [(V.int .i64 (gi r479 0)),(V.sl 1 Zg 0 none),(V.sl 2 Zf 0 none),(V.int .i64 (gi r479 3)),(V.sl 3 Za 0 none),(V.sl 4 Ze 0 none),(V.sl 5 Zi 0 none)]) (gl r479 1) (gl r479 2) (gl r479 4) (gl r479 5) (gl r479 6)
    else bif (Zn k7 r1.length) then
     bif (Zn k7 ((r1.set (0+k7.toNat) (V.agg [(V.inl Zc (gl (rd r1 (0+k7.toNat)) 0)),(V.inl Zc (gl (rd r1 (0+k7.toNat)) 1)),(V.int .i64 (gi (rd r1 (0+k7.toNat)) 2)),(V.int .i64 0)])).length)) then
      Zam k_ id1 remove6 (IntKind.i64.wrap (k7+1)) (V.agg [(V.int .i64 (gi b0 0)),(V.sl 1 Zg 0 none),(V.sl 2 Zf 0 none),(V.int .i64 (gi b0 3)),(V.sl 3 Za 0 none),(V.sl 4 Ze 0 none),(V.sl 5 Zi 0 none)]) ((r1.set (0+k7.toNat) (V.agg [(V.inl Zc (gl (rd r1 (0+k7.toNat)) 0)),(V.inl Zc (gl (rd r1 (0+k7.toNat)) 1)),(V.int .i64 (gi (rd r1 (0+k7.toNat)) 2)),(V.int .i64 0)])).set (0+k7.toNat) (V.agg [(V.inl Zc (gl (rd (r1.set (0+k7.toNat) (V.agg [(V.inl Zc (gl (rd r1 (0+k7.toNat)) 0)),(V.inl Zc (gl (rd r1 (0+k7.toNat)) 1)),(V.int .i64 (gi (rd r1 (0+k7.toNat)) 2)),(V.int .i64 0)])) (0+k7.toNat)) 0)),(V.inl Zc (gl (rd (r1.set (0+k7.toNat) (V.agg [(V.inl Zc (gl (rd r1 (0+k7.toNat)) 0)),(V.inl Zc (gl (rd r1 (0+k7.toNat)) 1)),(V.int .i64 (gi (rd r1 (0+k7.toNat)) 2)),(V.int .i64 0)])) (0+k7.toNat)) 1)),(V.int .i64 (gi b0 0)),(V.int .i64 (gi (rd (r1.set (0+k7.toNat) (V.agg [(V.inl Zc (gl (rd r1 (0+k7.toNat)) 0)),(V.inl Zc (gl (rd r1 (0+k7.toNat)) 1)),(V.int .i64 (gi (rd r1 (0+k7.toNat)) 2)),(V.int .i64 0)])) (0+k7.toNat)) 3))])) r2 r3 r4 r5
     else none
    else none
   else none
  else some ((V.agg [(V.int .i64 (gi b0 0)),(V.sl 1 Zg 0 none),(V.sl 2 Zf 0 none),(V.int .i64 (gi b0 3)),(V.sl 3 Za 0 none),(V.sl 4 Ze 0 none),(V.sl 5 Zi 0 none)]),r1,r2,r3,r4,r5)
def Zc2 (s:V) (id:Int):Option (Int×V):=
 Option.bind (Zal (Zd s) id) fun r477=>
 bif (decide (r477<0)) then
  some (1,(Zp s))
 else bif (Zn r477 ((gl s 4).length)) then
  Option.bind (Zdd (gl s 4) r477 (IntKind.i64.wrap (r477+1))) fun r478=>
  Option.bind (Zam (((((gl s 1).length:Nat):Int)-0).toNat+1) id (gb (rd (gl s 4) (0+r477.toNat)) 1) 0 (V.agg [(V.int .i64 (gi s 0)),(V.sl 1 Zg 0 none),(V.sl 2 Zf 0 none),(V.int .i64 (gi s 3)),(V.sl 3 Za 0 none),(V.sl 4 Ze 0 none),(V.sl 5 Zi 0 none)]) (gl s 1) (gl s 2) r478 (gl s 5) (gl s 6)) fun r480=>
  some (0,(V.agg [(V.int .i64 (gi r480.1 0)),(V.inl Zg r480.2.1),(V.inl Zf r480.2.2.1),(V.int .i64 (gi r480.1 3)),(V.inl Za r480.2.2.2.1),(V.inl Ze r480.2.2.2.2.1),(V.inl Zi r480.2.2.2.2.2)]))
 else none
def ZbD (s:V) (o:V):Option (Int×V):=
 Option.bind (ZaR (Zd s) (gl o 1)) fun r459=>
 bif (decide ((gi o 0)=1)) then
  bif r459.2 then
   bif (Zn r459.1 ((gl s 1).length)) then
    bif (decide ((gi o 0)=2)) then
     bif (!(decide ((gi (rd (gl s 1) (0+r459.1.toNat)) 2)=(gi o 3)))) then
      some (3,(Zp s))
     else Option.bind (ZX (Zp s) (gl o 1) (gl o 2)) fun r468=>
     bif (!r468.1) then
      some (4,(Zp r468.2))
     else some (0,(Zp r468.2))
    else Option.bind (ZX (Zp s) (gl o 1) (gl o 2)) fun r469=>
    bif (!r469.1) then
     some (4,(Zp r469.2))
    else some (0,(Zp r469.2))
   else none
  else bif (decide ((gi o 0)=2)) then
   bif (!(decide ((0:Int)=(gi o 3)))) then
    some (3,(Zp s))
   else Option.bind (ZX (Zp s) (gl o 1) (gl o 2)) fun r470=>
   bif (!r470.1) then
    some (4,(Zp r470.2))
   else some (0,(Zp r470.2))
  else Option.bind (ZX (Zp s) (gl o 1) (gl o 2)) fun r471=>
  bif (!r471.1) then
   some (4,(Zp r471.2))
  else some (0,(Zp r471.2))
 else bif (decide ((gi o 0)=2)) then
  bif r459.2 then
   bif (Zn r459.1 ((gl s 1).length)) then
    bif (decide ((gi o 0)=2)) then
     bif (!(decide ((gi (rd (gl s 1) (0+r459.1.toNat)) 2)=(gi o 3)))) then
      some (3,(Zp s))
     else Option.bind (ZX (Zp s) (gl o 1) (gl o 2)) fun r472=>
     bif (!r472.1) then
      some (4,(Zp r472.2))
     else some (0,(Zp r472.2))
    else Option.bind (ZX (Zp s) (gl o 1) (gl o 2)) fun r473=>
    bif (!r473.1) then
     some (4,(Zp r473.2))
    else some (0,(Zp r473.2))
   else none
  else bif (decide ((gi o 0)=2)) then
   bif (!(decide ((0:Int)=(gi o 3)))) then
    some (3,(Zp s))
   else Option.bind (ZX (Zp s) (gl o 1) (gl o 2)) fun r474=>
   bif (!r474.1) then
    some (4,(Zp r474.2))
   else some (0,(Zp r474.2))
  else Option.bind (ZX (Zp s) (gl o 1) (gl o 2)) fun r475=>
  bif (!r475.1) then
   some (4,(Zp r475.2))
  else some (0,(Zp r475.2))
 else bif (decide ((gi o 0)=3)) then
  bif (!r459.2) then
   some (1,(Zp s))
  else Option.bind (ZbN (Zp s) r459.1) fun r476=>
  some (0,(Zp r476))
 else bif (decide ((gi o 0)=4)) then
  bif (decide ((((gl s 4).length:Nat):Int)=8)) then
   some (4,(Zp s))
  else bif ((Zv (((gl s 4).length)+1) 16)&&true) then
   some (0,(V.agg [(V.int .i64 (gi s 0)),(V.inl Zg (gl s 1)),(V.inl Zf (gl s 2)),(V.int .i64 (gi s 3)),(V.inl Za ((gl s 4)++[(V.agg [(V.int .i64 (gi s 0)),(V.bool (decide ((gi o 3)=1)))])])),(V.inl Ze (gl s 5)),(V.inl Zi (gl s 6))]))
  else none
 else bif (decide ((gi o 0)=5)) then
  Option.bind (Zc2 (Zp s) (gi o 3)) fun r481=>
  some (r481.1,(Zp r481.2))
 else bif (decide ((gi o 0)=6)) then
  Option.bind (Zal (Zd s) (gi o 3)) fun r482=>
  bif (decide (r482<0)) then
   some (1,(Zp s))
  else bif r459.2 then
   bif (Zn r459.1 ((gl s 1).length)) then
    bif (!(decide ((gi (rd (gl s 1) (0+r459.1.toNat)) 3)=0))) then
     bif (Zn r459.1 ((gl s 1).length)) then
      bif (!(decide ((gi (rd (gl s 1) (0+r459.1.toNat)) 3)=(gi o 3)))) then
       some (2,(Zp s))
      else Option.bind (ZX (Zp s) (gl o 1) (gl o 2)) fun r483=>
      bif (!r483.1) then
       some (4,(Zp r483.2))
      else bif (Zn r459.1 ((gl r483.2 1).length)) then
       some (0,(V.agg [(V.int .i64 (gi r483.2 0)),(V.inl Zg ((gl r483.2 1).set (0+r459.1.toNat) (V.agg [(V.inl Zc (gl (rd (gl r483.2 1) (0+r459.1.toNat)) 0)),(V.inl Zc (gl (rd (gl r483.2 1) (0+r459.1.toNat)) 1)),(V.int .i64 (gi (rd (gl r483.2 1) (0+r459.1.toNat)) 2)),(V.int .i64 (gi o 3))]))),(V.inl Zf (gl r483.2 2)),(V.int .i64 (gi r483.2 3)),(V.inl Za (gl r483.2 4)),(V.inl Ze (gl r483.2 5)),(V.inl Zi (gl r483.2 6))]))
      else none
     else none
    else Option.bind (ZX (Zp s) (gl o 1) (gl o 2)) fun r484=>
    bif (!r484.1) then
     some (4,(Zp r484.2))
    else bif (Zn r459.1 ((gl r484.2 1).length)) then
     some (0,(V.agg [(V.int .i64 (gi r484.2 0)),(V.inl Zg ((gl r484.2 1).set (0+r459.1.toNat) (V.agg [(V.inl Zc (gl (rd (gl r484.2 1) (0+r459.1.toNat)) 0)),(V.inl Zc (gl (rd (gl r484.2 1) (0+r459.1.toNat)) 1)),(V.int .i64 (gi (rd (gl r484.2 1) (0+r459.1.toNat)) 2)),(V.int .i64 (gi o 3))]))),(V.inl Zf (gl r484.2 2)),(V.int .i64 (gi r484.2 3)),(V.inl Za (gl r484.2 4)),(V.inl Ze (gl r484.2 5)),(V.inl Zi (gl r484.2 6))]))
    else none
   else none
  else Option.bind (ZX (Zp s) (gl o 1) (gl o 2)) fun r485=>
  bif (!r485.1) then
   some (4,(Zp r485.2))
  else bif (Zn r459.1 ((gl r485.2 1).length)) then
   some (0,(V.agg [(V.int .i64 (gi r485.2 0)),(V.inl Zg ((gl r485.2 1).set (0+r459.1.toNat) (V.agg [(V.inl Zc (gl (rd (gl r485.2 1) (0+r459.1.toNat)) 0)),(V.inl Zc (gl (rd (gl r485.2 1) (0+r459.1.toNat)) 1)),(V.int .i64 (gi (rd (gl r485.2 1) (0+r459.1.toNat)) 2)),(V.int .i64 (gi o 3))]))),(V.inl Zf (gl r485.2 2)),(V.int .i64 (gi r485.2 3)),(V.inl Za (gl r485.2 4)),(V.inl Ze (gl r485.2 5)),(V.inl Zi (gl r485.2 6))]))
  else none
 else bif (decide ((gi o 0)=7)) then
  bif (!r459.2) then
   some (1,(Zp s))
  else bif (Zn r459.1 ((gl s 1).length)) then
   bif (!(decide ((gi (rd (gl s 1) (0+r459.1.toNat)) 3)=(gi o 3)))) then
    some (1,(Zp s))
   else bif (Zn r459.1 ((gl s 1).length)) then
    bif (Zn r459.1 (((gl s 1).set (0+r459.1.toNat) (V.agg [(V.inl Zc (gl (rd (gl s 1) (0+r459.1.toNat)) 0)),(V.inl Zc (gl (rd (gl s 1) (0+r459.1.toNat)) 1)),(V.int .i64 (gi (rd (gl s 1) (0+r459.1.toNat)) 2)),(V.int .i64 0)])).length)) then
     some (0,(V.agg [(V.int .i64 (gi s 0)),(V.inl Zg (((gl s 1).set (0+r459.1.toNat) (V.agg [(V.inl Zc (gl (rd (gl s 1) (0+r459.1.toNat)) 0)),(V.inl Zc (gl (rd (gl s 1) (0+r459.1.toNat)) 1)),(V.int .i64 (gi (rd (gl s 1) (0+r459.1.toNat)) 2)),(V.int .i64 0)])).set (0+r459.1.toNat) (V.agg [(V.inl Zc (gl (rd ((gl s 1).set (0+r459.1.toNat) (V.agg [(V.inl Zc (gl (rd (gl s 1) (0+r459.1.toNat)) 0)),(V.inl Zc (gl (rd (gl s 1) (0+r459.1.toNat)) 1)),(V.int .i64 (gi (rd (gl s 1) (0+r459.1.toNat)) 2)),(V.int .i64 0)])) (0+r459.1.toNat)) 0)),(V.inl Zc (gl (rd ((gl s 1).set (0+r459.1.toNat) (V.agg [(V.inl Zc (gl (rd (gl s 1) (0+r459.1.toNat)) 0)),(V.inl Zc (gl (rd (gl s 1) (0+r459.1.toNat)) 1)),(V.int .i64 (gi (rd (gl s 1) (0+r459.1.toNat)) 2)),(V.int .i64 0)])) (0+r459.1.toNat)) 1)),(V.int .i64 (gi s 0)),(V.int .i64 (gi (rd ((gl s 1).set (0+r459.1.toNat) (V.agg [(V.inl Zc (gl (rd (gl s 1) (0+r459.1.toNat)) 0)),(V.inl Zc (gl (rd (gl s 1) (0+r459.1.toNat)) 1)),(V.int .i64 (gi (rd (gl s 1) (0+r459.1.toNat)) 2)),(V.int .i64 0)])) (0+r459.1.toNat)) 3))]))),(V.inl Zf (gl s 2)),(V.int .i64 (gi s 3)),(V.inl Za (gl s 4)),(V.inl Ze (gl s 5)),(V.inl Zi (gl s 6))]))
    else none
   else none
  else none
 else some (0,(Zp s))
def ZbW (s:V) (c:V):Option (V×V):=
 bif (decide ((gi c 0)<0)) then
  some ((V.agg [(V.int .i64 0),(V.int .i64 (IntKind.i64.wrap ((gi s 0)+1)))]),(V.agg [(V.int .i64 (IntKind.i64.wrap ((gi s 0)+1))),(V.inl Zg (gl s 1)),(V.inl Zf (gl s 2)),(V.int .i64 (gi s 3)),(V.inl Za (gl s 4)),(V.inl Ze (gl s 5)),(V.inl Zi (gl s 6))]))
 else Option.bind (Zcd (V.agg [(V.int .i64 (IntKind.i64.wrap ((gi s 0)+1))),(V.inl Zg (gl s 1)),(V.inl Zf (gl s 2)),(V.int .i64 (gi s 3)),(V.inl Za (gl s 4)),(V.inl Ze (gl s 5))]) (gi c 0)) fun r458=>
 bif r458.2 then
  bif (Zn r458.1 ((gl s 5).length)) then
   bif (decide ((gi (rd (gl s 5) (0+r458.1.toNat)) 1)=(gi c 1))) then
    bif (Zn r458.1 ((gl s 5).length)) then
     some ((V.agg [(V.int .i64 (gi (rd (gl s 5) (0+r458.1.toNat)) 2)),(V.int .i64 (gi (rd (gl s 5) (0+r458.1.toNat)) 3))]),(V.agg [(V.int .i64 (IntKind.i64.wrap ((gi s 0)+1))),(V.inl Zg (gl s 1)),(V.inl Zf (gl s 2)),(V.int .i64 (gi s 3)),(V.inl Za (gl s 4)),(V.inl Ze (gl s 5)),(V.inl Zi (gl s 6))]))
    else none
   else bif r458.2 then
    bif (Zn r458.1 ((gl s 5).length)) then
     bif (decide ((gi c 1)<(gi (rd (gl s 5) (0+r458.1.toNat)) 1))) then
      some ((V.agg [(V.int .i64 5),(V.int .i64 (IntKind.i64.wrap ((gi s 0)+1)))]),(V.agg [(V.int .i64 (IntKind.i64.wrap ((gi s 0)+1))),(V.inl Zg (gl s 1)),(V.inl Zf (gl s 2)),(V.int .i64 (gi s 3)),(V.inl Za (gl s 4)),(V.inl Ze (gl s 5)),(V.inl Zi (gl s 6))]))
     else Option.bind (ZbD (V.agg [(V.int .i64 (IntKind.i64.wrap ((gi s 0)+1))),(V.inl Zg (gl s 1)),(V.inl Zf (gl s 2)),(V.int .i64 (gi s 3)),(V.inl Za (gl s 4)),(V.inl Ze (gl s 5)),(V.inl Zi (gl s 6))]) (V.agg [(V.int .i64 (gi c 2)),(V.inl Zc (gl c 3)),(V.inl Zc (gl c 4)),(V.int .i64 (gi c 5))])) fun r486=>
     bif r458.2 then
      bif (Zn r458.1 ((gl r486.2 5).length)) then
       some ((V.agg [(V.int .i64 r486.1),(V.int .i64 (IntKind.i64.wrap ((gi s 0)+1)))]),(V.agg [(V.int .i64 (gi r486.2 0)),(V.inl Zg (gl r486.2 1)),(V.inl Zf (gl r486.2 2)),(V.int .i64 (gi r486.2 3)),(V.inl Za (gl r486.2 4)),(V.inl Ze ((gl r486.2 5).set (0+r458.1.toNat) (V.agg [(V.int .i64 (gi c 0)),(V.int .i64 (gi c 1)),(V.int .i64 r486.1),(V.int .i64 (IntKind.i64.wrap ((gi s 0)+1)))]))),(V.inl Zi (gl r486.2 6))]))
      else none
     else Option.bind (Zcp 32 (gl r486.2 5) r458.1 [(V.agg [(V.int .i64 (gi c 0)),(V.int .i64 (gi c 1)),(V.int .i64 r486.1),(V.int .i64 (IntKind.i64.wrap ((gi s 0)+1)))])]) fun r487=>
     some ((V.agg [(V.int .i64 r486.1),(V.int .i64 (IntKind.i64.wrap ((gi s 0)+1)))]),(V.agg [(V.int .i64 (gi r486.2 0)),(V.inl Zg (gl r486.2 1)),(V.inl Zf (gl r486.2 2)),(V.int .i64 (gi r486.2 3)),(V.inl Za (gl r486.2 4)),(V.inl Ze r487),(V.inl Zi (gl r486.2 6))]))
    else none
   else Option.bind (ZbD (V.agg [(V.int .i64 (IntKind.i64.wrap ((gi s 0)+1))),(V.inl Zg (gl s 1)),(V.inl Zf (gl s 2)),(V.int .i64 (gi s 3)),(V.inl Za (gl s 4)),(V.inl Ze (gl s 5)),(V.inl Zi (gl s 6))]) (V.agg [(V.int .i64 (gi c 2)),(V.inl Zc (gl c 3)),(V.inl Zc (gl c 4)),(V.int .i64 (gi c 5))])) fun r488=>
   bif r458.2 then
    bif (Zn r458.1 ((gl r488.2 5).length)) then
     some ((V.agg [(V.int .i64 r488.1),(V.int .i64 (IntKind.i64.wrap ((gi s 0)+1)))]),(V.agg [(V.int .i64 (gi r488.2 0)),(V.inl Zg (gl r488.2 1)),(V.inl Zf (gl r488.2 2)),(V.int .i64 (gi r488.2 3)),(V.inl Za (gl r488.2 4)),(V.inl Ze ((gl r488.2 5).set (0+r458.1.toNat) (V.agg [(V.int .i64 (gi c 0)),(V.int .i64 (gi c 1)),(V.int .i64 r488.1),(V.int .i64 (IntKind.i64.wrap ((gi s 0)+1)))]))),(V.inl Zi (gl r488.2 6))]))
    else none
   else Option.bind (Zcp 32 (gl r488.2 5) r458.1 [(V.agg [(V.int .i64 (gi c 0)),(V.int .i64 (gi c 1)),(V.int .i64 r488.1),(V.int .i64 (IntKind.i64.wrap ((gi s 0)+1)))])]) fun r489=>
   some ((V.agg [(V.int .i64 r488.1),(V.int .i64 (IntKind.i64.wrap ((gi s 0)+1)))]),(V.agg [(V.int .i64 (gi r488.2 0)),(V.inl Zg (gl r488.2 1)),(V.inl Zf (gl r488.2 2)),(V.int .i64 (gi r488.2 3)),(V.inl Za (gl r488.2 4)),(V.inl Ze r489),(V.inl Zi (gl r488.2 6))]))
  else none
 else bif r458.2 then
  bif (Zn r458.1 ((gl s 5).length)) then
   bif (decide ((gi c 1)<(gi (rd (gl s 5) (0+r458.1.toNat)) 1))) then
    some ((V.agg [(V.int .i64 5),(V.int .i64 (IntKind.i64.wrap ((gi s 0)+1)))]),(V.agg [(V.int .i64 (IntKind.i64.wrap ((gi s 0)+1))),(V.inl Zg (gl s 1)),(V.inl Zf (gl s 2)),(V.int .i64 (gi s 3)),(V.inl Za (gl s 4)),(V.inl Ze (gl s 5)),(V.inl Zi (gl s 6))]))
   else Option.bind (ZbD (V.agg [(V.int .i64 (IntKind.i64.wrap ((gi s 0)+1))),(V.inl Zg (gl s 1)),(V.inl Zf (gl s 2)),(V.int .i64 (gi s 3)),(V.inl Za (gl s 4)),(V.inl Ze (gl s 5)),(V.inl Zi (gl s 6))]) (V.agg [(V.int .i64 (gi c 2)),(V.inl Zc (gl c 3)),(V.inl Zc (gl c 4)),(V.int .i64 (gi c 5))])) fun r490=>
   bif r458.2 then
    bif (Zn r458.1 ((gl r490.2 5).length)) then
     some ((V.agg [(V.int .i64 r490.1),(V.int .i64 (IntKind.i64.wrap ((gi s 0)+1)))]),(V.agg [(V.int .i64 (gi r490.2 0)),(V.inl Zg (gl r490.2 1)),(V.inl Zf (gl r490.2 2)),(V.int .i64 (gi r490.2 3)),(V.inl Za (gl r490.2 4)),(V.inl Ze ((gl r490.2 5).set (0+r458.1.toNat) (V.agg [(V.int .i64 (gi c 0)),(V.int .i64 (gi c 1)),(V.int .i64 r490.1),(V.int .i64 (IntKind.i64.wrap ((gi s 0)+1)))]))),(V.inl Zi (gl r490.2 6))]))
    else none
   else Option.bind (Zcp 32 (gl r490.2 5) r458.1 [(V.agg [(V.int .i64 (gi c 0)),(V.int .i64 (gi c 1)),(V.int .i64 r490.1),(V.int .i64 (IntKind.i64.wrap ((gi s 0)+1)))])]) fun r491=>
   some ((V.agg [(V.int .i64 r490.1),(V.int .i64 (IntKind.i64.wrap ((gi s 0)+1)))]),(V.agg [(V.int .i64 (gi r490.2 0)),(V.inl Zg (gl r490.2 1)),(V.inl Zf (gl r490.2 2)),(V.int .i64 (gi r490.2 3)),(V.inl Za (gl r490.2 4)),(V.inl Ze r491),(V.inl Zi (gl r490.2 6))]))
  else none
 else Option.bind (ZbD (V.agg [(V.int .i64 (IntKind.i64.wrap ((gi s 0)+1))),(V.inl Zg (gl s 1)),(V.inl Zf (gl s 2)),(V.int .i64 (gi s 3)),(V.inl Za (gl s 4)),(V.inl Ze (gl s 5)),(V.inl Zi (gl s 6))]) (V.agg [(V.int .i64 (gi c 2)),(V.inl Zc (gl c 3)),(V.inl Zc (gl c 4)),(V.int .i64 (gi c 5))])) fun r492=>
 bif r458.2 then
  bif (Zn r458.1 ((gl r492.2 5).length)) then
   some ((V.agg [(V.int .i64 r492.1),(V.int .i64 (IntKind.i64.wrap ((gi s 0)+1)))]),(V.agg [(V.int .i64 (gi r492.2 0)),(V.inl Zg (gl r492.2 1)),(V.inl Zf (gl r492.2 2)),(V.int .i64 (gi r492.2 3)),(V.inl Za (gl r492.2 4)),(V.inl Ze ((gl r492.2 5).set (0+r458.1.toNat) (V.agg [(V.int .i64 (gi c 0)),(V.int .i64 (gi c 1)),(V.int .i64 r492.1),(V.int .i64 (IntKind.i64.wrap ((gi s 0)+1)))]))),(V.inl Zi (gl r492.2 6))]))
  else none
 else Option.bind (Zcp 32 (gl r492.2 5) r458.1 [(V.agg [(V.int .i64 (gi c 0)),(V.int .i64 (gi c 1)),(V.int .i64 r492.1),(V.int .i64 (IntKind.i64.wrap ((gi s 0)+1)))])]) fun r493=>
 some ((V.agg [(V.int .i64 r492.1),(V.int .i64 (IntKind.i64.wrap ((gi s 0)+1)))]),(V.agg [(V.int .i64 (gi r492.2 0)),(V.inl Zg (gl r492.2 1)),(V.inl Zf (gl r492.2 2)),(V.int .i64 (gi r492.2 3)),(V.inl Za (gl r492.2 4)),(V.inl Ze r493),(V.inl Zi (gl r492.2 6))]))
def Zfr (o:V):Option (V):=
 Option.bind (Zy (gl o 1)) fun r495=>
 Option.bind (Zy (gl o 2)) fun r496=>
 some (V.agg [(V.int .i64 (gi o 0)),(V.inl Zc r495),(V.inl Zc r496),(V.int .i64 (gi o 3))])
def ZcI (c:V):Option (V):=
 Option.bind (Zfr (V.agg [(V.int .i64 (gi c 2)),(V.inl Zc (gl c 3)),(V.inl Zc (gl c 4)),(V.int .i64 (gi c 5))])) fun r497=>
 some (V.agg [(V.int .i64 (gi c 0)),(V.int .i64 (gi c 1)),(V.int .i64 (gi r497 0)),(V.inl Zc (gl r497 1)),(V.inl Zc (gl r497 2)),(V.int .i64 (gi r497 3))])
def Zac:Nat→Int→List V→Int→Int→V→V→List V→List V→List V→List V→List V→List V→List V→List V→List V→List V→Option (Nat×Bool×V×V×List V×List V×List V×List V×List V×List V×List V×List V×List V×List V)
 | 0,_,_,_,_,_,_,_,_,_,_,_,_,_,_,_,_=>none
 | k_+1,k1,v20,v21,v22,b0,b1,r2,r3,r4,r5,r6,r7,r8,r9,r10,r11=>
  bif (decide (v22<v21)) then
   bif (Zn v22 v20.length) then
    Option.bind (Zbd (V.agg [(V.int .i64 (gi (rd v20 v22.toNat) 1)),(V.int .i64 (gi (rd v20 v22.toNat) 2)),(V.int .i64 (gi (rd v20 v22.toNat) 3)),(V.inl Zc (gl (rd v20 v22.toNat) 4)),(V.inl Zc (gl (rd v20 v22.toNat) 5)),(V.int .i64 (gi (rd v20 v22.toNat) 6))])) fun r457=>
    bif (!r457) then
     some (0,false,(V.agg [(V.int .i64 0),(V.nil Zg),(V.nil Zf),(V.int .i64 0),(V.nil Za),(V.nil Ze),(V.nil Zi)]),(V.agg [(V.int .i64 (gi b1 0)),(V.sl 2 Zg 0 none),(V.sl 3 Zf 0 none),(V.int .i64 (gi b1 3)),(V.sl 4 Za 0 none),(V.sl 5 Ze 0 none),(V.sl 6 Zi 0 none)]),r7,r8,r9,r10,r11,[],[],[],[],[])
    else bif (decide (v22<k1)) then
     Option.bind (ZbW (V.agg [(V.int .i64 (gi b1 0)),(V.inl Zg r7),(V.inl Zf r8),(V.int .i64 (gi b1 3)),(V.inl Za r9),(V.inl Ze r10),(V.inl Zi r11)]) (V.agg [(V.int .i64 (gi (rd v20 v22.toNat) 1)),(V.int .i64 (gi (rd v20 v22.toNat) 2)),(V.int .i64 (gi (rd v20 v22.toNat) 3)),(V.inl Zc (gl (rd v20 v22.toNat) 4)),(V.inl Zc (gl (rd v20 v22.toNat) 5)),(V.int .i64 (gi (rd v20 v22.toNat) 6))])) fun r494=>
     Zac k_ k1 v20 v21 (IntKind.i64.wrap (v22+1)) (V.agg [(V.int .i64 (gi b0 0)),(V.sl 2 Zg 0 none),(V.sl 3 Zf 0 none),(V.int .i64 (gi b0 3)),(V.sl 4 Za 0 none),(V.sl 5 Ze 0 none),(V.sl 6 Zi 0 none)]) (V.agg [(V.int .i64 (gi r494.2 0)),(V.sl 7 Zg 0 none),(V.sl 8 Zf 0 none),(V.int .i64 (gi r494.2 3)),(V.sl 9 Za 0 none),(V.sl 10 Ze 0 none),(V.sl 11 Zi 0 none)]) r2 r3 r4 r5 r6 (gl r494.2 1) (gl r494.2 2) (gl r494.2 4) (gl r494.2 5) (gl r494.2 6)
    else Option.bind (ZcI (V.agg [(V.int .i64 (gi (rd v20 v22.toNat) 1)),(V.int .i64 (gi (rd v20 v22.toNat) 2)),(V.int .i64 (gi (rd v20 v22.toNat) 3)),(V.inl Zc (gl (rd v20 v22.toNat) 4)),(V.inl Zc (gl (rd v20 v22.toNat) 5)),(V.int .i64 (gi (rd v20 v22.toNat) 6))])) fun r498=>
    bif ((Zv (r11.length+1) 80)&&true) then
     Zac k_ k1 v20 v21 (IntKind.i64.wrap (v22+1)) (V.agg [(V.int .i64 (gi b0 0)),(V.sl 2 Zg 0 none),(V.sl 3 Zf 0 none),(V.int .i64 (gi b0 3)),(V.sl 4 Za 0 none),(V.sl 5 Ze 0 none),(V.sl 6 Zi 0 none)]) (V.agg [(V.int .i64 (gi b1 0)),(V.sl 7 Zg 0 none),(V.sl 8 Zf 0 none),(V.int .i64 (gi b1 3)),(V.sl 9 Za 0 none),(V.sl 10 Ze 0 none),(V.sl 11 Zi 0 none)]) r2 r3 r4 r5 r6 r7 r8 r9 r10 (r11++[(Zl r498)])
    else none
   else none
  else some (1,false,(V.agg [(V.int .i64 (gi b0 0)),(V.sl 2 Zg 0 none),(V.sl 3 Zf 0 none),(V.int .i64 (gi b0 3)),(V.sl 4 Za 0 none),(V.sl 5 Ze 0 none),(V.sl 6 Zi 0 none)]),(V.agg [(V.int .i64 (gi b1 0)),(V.sl 7 Zg 0 none),(V.sl 8 Zf 0 none),(V.int .i64 (gi b1 3)),(V.sl 9 Za 0 none),(V.sl 10 Ze 0 none),(V.sl 11 Zi 0 none)]),r2,r3,r4,r5,r6,r7,r8,r9,r10,r11)
def Zeq (l:List V) (k:Int):Option (V×Bool):=
 bif (decide ((400:Int)<((l.length:Nat):Int))) then
  some ((V.agg [(V.int .i64 0),(V.inl Zg []),(V.inl Zf []),(V.int .i64 0),(V.inl Za []),(V.inl Ze []),(V.inl Zi [])]),false)
 else bif (!(ZL k 0 ((l.length:Nat):Int))) then
  some ((V.agg [(V.int .i64 0),(V.inl Zg []),(V.inl Zf []),(V.int .i64 0),(V.inl Za []),(V.inl Ze []),(V.inl Zi [])]),false)
 else Option.bind (Zac ((((l.length:Nat):Int)-0).toNat+1) k l ((l.length:Nat):Int) 0 (V.agg [(V.int .i64 0),(V.sl 2 Zg 0 none),(V.sl 3 Zf 0 none),(V.int .i64 0),(V.sl 4 Za 0 none),(V.sl 5 Ze 0 none),(V.sl 6 Zi 0 none)]) (V.agg [(V.int .i64 0),(V.sl 7 Zg 0 none),(V.sl 8 Zf 0 none),(V.int .i64 0),(V.sl 9 Za 0 none),(V.sl 10 Ze 0 none),(V.sl 11 Zi 0 none)]) [] [] [] [] [] [] [] [] [] []) fun r499=>
 bif (Nat.beq r499.1 0) then
  some ((V.agg [(V.int .i64 (gi r499.2.2.1 0)),(V.inl Zg []),(V.inl Zf []),(V.int .i64 (gi r499.2.2.1 3)),(V.inl Za []),(V.inl Ze []),(V.inl Zi [])]),r499.2.1)
 else some ((V.agg [(V.int .i64 (gi r499.2.2.2.1 0)),(V.inl Zg r499.2.2.2.2.2.2.2.2.2.1),(V.inl Zf r499.2.2.2.2.2.2.2.2.2.2.1),(V.int .i64 (gi r499.2.2.2.1 3)),(V.inl Za r499.2.2.2.2.2.2.2.2.2.2.2.1),(V.inl Ze r499.2.2.2.2.2.2.2.2.2.2.2.2.1),(V.inl Zi r499.2.2.2.2.2.2.2.2.2.2.2.2.2)]),true)
def ZfN (c:V):Option (Bool):=
 Option.bind (Zbd (Zl c)) fun r504=>
 some (!r504)
def ZZ:Nat→List V→Int→Int→Option (Nat×Int)
 | 0,_,_,_=>none
 | k_+1,s0,v7,v8=>
  bif (decide (v8<v7)) then
   bif (Zn v8 s0.length) then
    Option.bind (ZfN (Zl (rd s0 v8.toNat))) fun r505=>
    bif r505 then
     some (0,v8)
    else ZZ k_ s0 v7 (IntKind.i64.wrap (v8+1))
   else none
  else some (1,0)
def ZdG (s:List V):Option (Int):=
 Option.bind (ZZ ((((s.length:Nat):Int)-0).toNat+1) s ((s.length:Nat):Int) 0) fun r506=>
 bif (Nat.beq r506.1 0) then
  some r506.2
 else some (-1)
def ZbV (s:List V):Option (Bool):=
 Option.bind (ZdG s) fun r507=>
 some (decide ((0:Int)≤r507))
def Zb8 (s:V):Option (Bool):=
 Option.bind (Zdp (Zd s)) fun r503=>
 bif r503 then
  bif (decide ((((gl s 6).length:Nat):Int)≤(mnI 400 (IntKind.i64.wrap (1000000-(gi s 0)))))) then
   Option.bind (ZbV (gl s 6)) fun r508=>
   some (!r508)
  else some false
 else some false
def ZaV:Nat→List V→Int→Int→V→V→List V→List V→List V→List V→List V→List V→List V→List V→Option (V×V×List V×List V×List V×List V×List V×List V×List V×List V)
 | 0,_,_,_,_,_,_,_,_,_,_,_,_,_=>none
 | k_+1,v15,v16,v17,b0,b1,r2,r3,r4,r5,r6,r7,r8,r9=>
  bif (decide (v17<v16)) then
   bif (Zn v17 v15.length) then
    Option.bind (Za4 (V.agg [(V.int .i64 (gi b1 0)),(V.inl Zg r6),(V.inl Zf r7),(V.int .i64 (gi b1 3)),(V.inl Za r8),(V.inl Ze r9)]) (Zl (rd v15 v17.toNat))) fun r513=>
    ZaV k_ v15 v16 (IntKind.i64.wrap (v17+1)) (V.agg [(V.int .i64 (gi b0 0)),(V.sl 2 Zg 0 none),(V.sl 3 Zf 0 none),(V.int .i64 (gi b0 3)),(V.sl 4 Za 0 none),(V.sl 5 Ze 0 none)]) (V.agg [(V.int .i64 (gi r513.2 0)),(V.sl 6 Zg 0 none),(V.sl 7 Zf 0 none),(V.int .i64 (gi r513.2 3)),(V.sl 8 Za 0 none),(V.sl 9 Ze 0 none)]) r2 r3 r4 r5 (gl r513.2 1) (gl r513.2 2) (gl r513.2 4) (gl r513.2 5)
   else none
  else some ((V.agg [(V.int .i64 (gi b0 0)),(V.sl 2 Zg 0 none),(V.sl 3 Zf 0 none),(V.int .i64 (gi b0 3)),(V.sl 4 Za 0 none),(V.sl 5 Ze 0 none)]),(V.agg [(V.int .i64 (gi b1 0)),(V.sl 6 Zg 0 none),(V.sl 7 Zf 0 none),(V.int .i64 (gi b1 3)),(V.sl 8 Za 0 none),(V.sl 9 Ze 0 none)]),r2,r3,r4,r5,r6,r7,r8,r9)
def Zd9 (s:V):Option (V×Bool):=
 Option.bind (Zb8 (Zp s)) fun r511=>
 bif (!r511) then
  some ((V.agg [(V.int .i64 0),(V.inl Zg []),(V.inl Zf []),(V.int .i64 0),(V.inl Za []),(V.inl Ze [])]),false)
 else Option.bind (Za8 (Zd s)) fun r512=>
 Option.bind (ZaV (((((gl s 6).length:Nat):Int)-0).toNat+1) (gl s 6) (((gl s 6).length:Nat):Int) 0 (V.agg [(V.int .i64 0),(V.sl 2 Zg 0 none),(V.sl 3 Zf 0 none),(V.int .i64 0),(V.sl 4 Za 0 none),(V.sl 5 Ze 0 none)]) (V.agg [(V.int .i64 (gi r512 0)),(V.sl 6 Zg 0 none),(V.sl 7 Zf 0 none),(V.int .i64 (gi r512 3)),(V.sl 8 Za 0 none),(V.sl 9 Ze 0 none)]) [] [] [] [] (gl r512 1) (gl r512 2) (gl r512 4) (gl r512 5)) fun r514=>
 some ((V.agg [(V.int .i64 (gi r514.2.1 0)),(V.inl Zg r514.2.2.2.2.2.2.1),(V.inl Zf r514.2.2.2.2.2.2.2.1),(V.int .i64 (gi r514.2.1 3)),(V.inl Za r514.2.2.2.2.2.2.2.2.1),(V.inl Ze r514.2.2.2.2.2.2.2.2.2)]),true)
def Zci:Nat→List V→Int→V→Option (Nat×Int)
 | 0,_,_,_=>none
 | k_+1,key1,i5,b0=>
  bif (decide (i5<(((gl b0 1).length:Nat):Int))) then
   bif (Zn i5 ((gl b0 1).length)) then
    bif (ZbF ((gl (rd (gl b0 1) i5.toNat) 0).map ZaS) (key1.map ZaS)) then
     some (0,i5)
    else Zci k_ key1 (IntKind.i64.wrap (i5+1)) (Zd b0)
   else none
  else some (1,0)
def Zbq (s:V) (key:List V):Option (Int):=
 Option.bind (Zci (((((gl (Zd s) 1).length:Nat):Int)-0).toNat+1) key 0 (Zd s)) fun r530=>
 bif (Nat.beq r530.1 0) then
  some r530.2
 else some (-1)
def ZbZ:Nat→List V→Int→V→Option (Nat×Int)
 | 0,_,_,_=>none
 | k_+1,key1,i5,b0=>
  bif (decide (i5<(((gl b0 2).length:Nat):Int))) then
   bif (Zn i5 ((gl b0 2).length)) then
    bif (ZbF ((gl (rd (gl b0 2) i5.toNat) 0).map ZaS) (key1.map ZaS)) then
     some (0,i5)
    else ZbZ k_ key1 (IntKind.i64.wrap (i5+1)) (Zd b0)
   else none
  else some (1,0)
def Zer (s:V) (key:List V):Option (Int):=
 Option.bind (ZbZ (((((gl (Zd s) 2).length:Nat):Int)-0).toNat+1) key 0 (Zd s)) fun r533=>
 bif (Nat.beq r533.1 0) then
  some r533.2
 else some (-1)
def Zb0:Nat→Int→Int→V→Option (Nat×Int)
 | 0,_,_,_=>none
 | k_+1,id1,i5,b0=>
  bif (decide (i5<(((gl b0 4).length:Nat):Int))) then
   bif (Zn i5 ((gl b0 4).length)) then
    bif (decide ((gi (rd (gl b0 4) i5.toNat) 0)=id1)) then
     some (0,i5)
    else Zb0 k_ id1 (IntKind.i64.wrap (i5+1)) (Zd b0)
   else none
  else some (1,0)
def Zb9 (s:V) (id:Int):Option (Int):=
 Option.bind (Zb0 (((((gl (Zd s) 4).length:Nat):Int)-0).toNat+1) id 0 (Zd s)) fun r542=>
 bif (Nat.beq r542.1 0) then
  some r542.2
 else some (-1)
def Zco:Nat→V→List V→List V→List V→List V→Option (V×List V×List V×List V×List V)
 | 0,_,_,_,_,_=>none
 | k_+1,b0,r1,r2,r3,r4=>
  bif (decide ((10:Int)<((r2.length:Nat):Int))) then
   bif (Zn 0 r2.length) then
    bif (decide ((1:Int)≤((r2.length:Nat):Int))) then
     none
    else none
   else none
  else some ((V.agg [(V.int .i64 (gi b0 0)),(V.sl 1 Zg 0 none),(V.sl 2 Zf 0 none),(V.int .i64 (gi b0 3)),(V.sl 3 Za 0 none),(V.sl 4 Ze 0 none)]),r1,r2,r3,r4)
def Zdq (s:V) (i:Int):Option (V):=
 bif (Zn i ((gl s 1).length)) then
  bif ((decide ((0:Int)≤i))&&(decide (i≤(((gl s 1).length:Nat):Int)))) then
   bif ((Zv (0+(((gl s 1).take i.toNat).length)) 64)&&true) then
    bif ((decide ((0:Int)≤(IntKind.i64.wrap (i+1))))&&(decide ((IntKind.i64.wrap (i+1))≤(((gl s 1).length:Nat):Int)))) then
     bif ((Zv ((((gl s 1).take i.toNat).length)+((((gl s 1).drop (0+((IntKind.i64.wrap (i+1)).toNat))).take (((gl s 1).length)-((IntKind.i64.wrap (i+1)).toNat))).length)) 64)&&true) then
      bif ((Zv (0+((gl s 2).length)) 32)&&true) then
       bif ((Zv (((gl s 2).length)+1) 32)&&true) then
        Option.bind (Zco ((((((gl s 2)++[(V.agg [(V.inl Zc (gl (rd (gl s 1) (0+i.toNat)) 0)),(V.int .i64 (gi s 0))])]).length:Nat):Int)-10).toNat+1) (V.agg [(V.int .i64 (gi s 0)),(V.sl 1 Zg 0 none),(V.sl 2 Zf 0 none),(V.int .i64 (gi s 3)),(V.sl 3 Za 0 none),(V.sl 4 Ze 0 none)]) (((gl s 1).take i.toNat)++(((gl s 1).drop (0+((IntKind.i64.wrap (i+1)).toNat))).take (((gl s 1).length)-((IntKind.i64.wrap (i+1)).toNat)))) ((gl s 2)++[(V.agg [(V.inl Zc (gl (rd (gl s 1) (0+i.toNat)) 0)),(V.int .i64 (gi s 0))])]) (gl s 4) (gl s 5)) fun r545=>
        some (V.agg [(V.int .i64 (gi r545.1 0)),(V.inl Zg r545.2.1),(V.inl Zf r545.2.2.1),(V.int .i64 (gi r545.1 3)),(V.inl Za r545.2.2.2.1),(V.inl Ze r545.2.2.2.2)])
       else none
      else none
     else none
    else none
   else none
  else none
 else none
def Zae:Nat→List V→List V→Int→V→List V→List V→List V→List V→Option (List V×List V×Int×V×List V×List V×List V×List V)
 | 0,_,_,_,_,_,_,_,_=>none
 | k_+1,key1,val2,i7,b0,r1,r2,r3,r4=>
  bif (decide (i7<((r1.length:Nat):Int))) then
   bif (Zn i7 r1.length) then
    bif (ZcV ((gl (rd r1 (0+i7.toNat)) 0).map ZaS) (key1.map ZaS)) then
     Zae k_ key1 val2 (IntKind.i64.wrap (i7+1)) (V.agg [(V.int .i64 (gi b0 0)),(V.sl 1 Zg 0 none),(V.sl 2 Zf 0 none),(V.int .i64 (gi b0 3)),(V.sl 3 Za 0 none),(V.sl 4 Ze 0 none)]) r1 r2 r3 r4
    else some (key1,val2,i7,(V.agg [(V.int .i64 (gi b0 0)),(V.sl 1 Zg 0 none),(V.sl 2 Zf 0 none),(V.int .i64 (gi b0 3)),(V.sl 3 Za 0 none),(V.sl 4 Ze 0 none)]),r1,r2,r3,r4)
   else none
  else some (key1,val2,i7,(V.agg [(V.int .i64 (gi b0 0)),(V.sl 1 Zg 0 none),(V.sl 2 Zf 0 none),(V.int .i64 (gi b0 3)),(V.sl 3 Za 0 none),(V.sl 4 Ze 0 none)]),r1,r2,r3,r4)
def Zat (s:V) (key:List V) (val:List V):Option (Bool×V):=
 Option.bind (Zbq (Zd s) key) fun r574=>
 bif (decide ((0:Int)≤r574)) then
  bif ((Zv (0+val.length) 1)&&true) then
   bif (Zn r574 ((gl s 1).length)) then
    bif (Zn r574 (((gl s 1).set (0+r574.toNat) (V.agg [(V.inl Zc (gl (rd (gl s 1) (0+r574.toNat)) 0)),(V.inl Zc val),(V.int .i64 (gi (rd (gl s 1) (0+r574.toNat)) 2)),(V.int .i64 (gi (rd (gl s 1) (0+r574.toNat)) 3))])).length)) then
     some (true,(V.agg [(V.int .i64 (gi s 0)),(V.inl Zg (((gl s 1).set (0+r574.toNat) (V.agg [(V.inl Zc (gl (rd (gl s 1) (0+r574.toNat)) 0)),(V.inl Zc val),(V.int .i64 (gi (rd (gl s 1) (0+r574.toNat)) 2)),(V.int .i64 (gi (rd (gl s 1) (0+r574.toNat)) 3))])).set (0+r574.toNat) (V.agg [(V.inl Zc (gl (rd ((gl s 1).set (0+r574.toNat) (V.agg [(V.inl Zc (gl (rd (gl s 1) (0+r574.toNat)) 0)),(V.inl Zc val),(V.int .i64 (gi (rd (gl s 1) (0+r574.toNat)) 2)),(V.int .i64 (gi (rd (gl s 1) (0+r574.toNat)) 3))])) (0+r574.toNat)) 0)),(V.inl Zc (gl (rd ((gl s 1).set (0+r574.toNat) (V.agg [(V.inl Zc (gl (rd (gl s 1) (0+r574.toNat)) 0)),(V.inl Zc val),(V.int .i64 (gi (rd (gl s 1) (0+r574.toNat)) 2)),(V.int .i64 (gi (rd (gl s 1) (0+r574.toNat)) 3))])) (0+r574.toNat)) 1)),(V.int .i64 (gi s 0)),(V.int .i64 (gi (rd ((gl s 1).set (0+r574.toNat) (V.agg [(V.inl Zc (gl (rd (gl s 1) (0+r574.toNat)) 0)),(V.inl Zc val),(V.int .i64 (gi (rd (gl s 1) (0+r574.toNat)) 2)),(V.int .i64 (gi (rd (gl s 1) (0+r574.toNat)) 3))])) (0+r574.toNat)) 3))]))),(V.inl Zf (gl s 2)),(V.int .i64 (gi s 3)),(V.inl Za (gl s 4)),(V.inl Ze (gl s 5))]))
    else none
   else none
  else none
 else bif (decide ((20:Int)≤(((gl s 1).length:Nat):Int))) then
  some (false,(Zd s))
 else Option.bind (Zer (Zd s) key) fun r575=>
 bif (decide ((0:Int)≤r575)) then
  bif ((decide ((0:Int)≤r575))&&(decide (r575≤(((gl s 2).length:Nat):Int)))) then
   bif ((Zv (0+(((gl s 2).take r575.toNat).length)) 32)&&true) then
    bif ((decide ((0:Int)≤(IntKind.i64.wrap (r575+1))))&&(decide ((IntKind.i64.wrap (r575+1))≤(((gl s 2).length:Nat):Int)))) then
     bif ((Zv ((((gl s 2).take r575.toNat).length)+((((gl s 2).drop (0+((IntKind.i64.wrap (r575+1)).toNat))).take (((gl s 2).length)-((IntKind.i64.wrap (r575+1)).toNat))).length)) 32)&&true) then
      Option.bind (Zae (((((gl s 1).length:Nat):Int)-0).toNat+1) key val 0 (V.agg [(V.int .i64 (gi s 0)),(V.sl 1 Zg 0 none),(V.sl 2 Zf 0 none),(V.int .i64 (gi s 3)),(V.sl 3 Za 0 none),(V.sl 4 Ze 0 none)]) (gl s 1) (((gl s 2).take r575.toNat)++(((gl s 2).drop (0+((IntKind.i64.wrap (r575+1)).toNat))).take (((gl s 2).length)-((IntKind.i64.wrap (r575+1)).toNat)))) (gl s 4) (gl s 5)) fun r576=>
      bif ((decide ((0:Int)≤r576.2.2.1))&&(decide (r576.2.2.1≤((r576.2.2.2.2.1.length:Nat):Int)))) then
       bif ((Zv (0+((r576.2.2.2.2.1.take r576.2.2.1.toNat).length)) 64)&&true) then
        bif ((Zv (0+r576.1.length) 1)&&true) then
         bif ((Zv (0+r576.2.1.length) 1)&&true) then
          bif ((Zv (((r576.2.2.2.2.1.take r576.2.2.1.toNat).length)+1) 64)&&true) then
           bif ((decide ((0:Int)≤r576.2.2.1))&&(decide (r576.2.2.1≤((r576.2.2.2.2.1.length:Nat):Int)))) then
            bif ((Zv ((((r576.2.2.2.2.1.take r576.2.2.1.toNat)++[(V.agg [(V.inl Zc r576.1),(V.inl Zc r576.2.1),(V.int .i64 (gi r576.2.2.2.1 0)),(V.int .i64 0)])]).length)+(((r576.2.2.2.2.1.drop (0+r576.2.2.1.toNat)).take (r576.2.2.2.2.1.length-r576.2.2.1.toNat)).length)) 64)&&true) then
             some (true,(V.agg [(V.int .i64 (gi r576.2.2.2.1 0)),(V.inl Zg (((r576.2.2.2.2.1.take r576.2.2.1.toNat)++[(V.agg [(V.inl Zc r576.1),(V.inl Zc r576.2.1),(V.int .i64 (gi r576.2.2.2.1 0)),(V.int .i64 0)])])++((r576.2.2.2.2.1.drop (0+r576.2.2.1.toNat)).take (r576.2.2.2.2.1.length-r576.2.2.1.toNat)))),(V.inl Zf r576.2.2.2.2.2.1),(V.int .i64 (gi r576.2.2.2.1 3)),(V.inl Za r576.2.2.2.2.2.2.1),(V.inl Ze r576.2.2.2.2.2.2.2)]))
            else none
           else none
          else none
         else none
        else none
       else none
      else none
     else none
    else none
   else none
  else none
 else Option.bind (Zae (((((gl s 1).length:Nat):Int)-0).toNat+1) key val 0 (V.agg [(V.int .i64 (gi s 0)),(V.sl 1 Zg 0 none),(V.sl 2 Zf 0 none),(V.int .i64 (gi s 3)),(V.sl 3 Za 0 none),(V.sl 4 Ze 0 none)]) (gl s 1) (gl s 2) (gl s 4) (gl s 5)) fun r577=>
 bif ((decide ((0:Int)≤r577.2.2.1))&&(decide (r577.2.2.1≤((r577.2.2.2.2.1.length:Nat):Int)))) then
  bif ((Zv (0+((r577.2.2.2.2.1.take r577.2.2.1.toNat).length)) 64)&&true) then
   bif ((Zv (0+r577.1.length) 1)&&true) then
    bif ((Zv (0+r577.2.1.length) 1)&&true) then
     bif ((Zv (((r577.2.2.2.2.1.take r577.2.2.1.toNat).length)+1) 64)&&true) then
      bif ((decide ((0:Int)≤r577.2.2.1))&&(decide (r577.2.2.1≤((r577.2.2.2.2.1.length:Nat):Int)))) then
       bif ((Zv ((((r577.2.2.2.2.1.take r577.2.2.1.toNat)++[(V.agg [(V.inl Zc r577.1),(V.inl Zc r577.2.1),(V.int .i64 (gi r577.2.2.2.1 0)),(V.int .i64 0)])]).length)+(((r577.2.2.2.2.1.drop (0+r577.2.2.1.toNat)).take (r577.2.2.2.2.1.length-r577.2.2.1.toNat)).length)) 64)&&true) then
        some (true,(V.agg [(V.int .i64 (gi r577.2.2.2.1 0)),(V.inl Zg (((r577.2.2.2.2.1.take r577.2.2.1.toNat)++[(V.agg [(V.inl Zc r577.1),(V.inl Zc r577.2.1),(V.int .i64 (gi r577.2.2.2.1 0)),(V.int .i64 0)])])++((r577.2.2.2.2.1.drop (0+r577.2.2.1.toNat)).take (r577.2.2.2.2.1.length-r577.2.2.1.toNat)))),(V.inl Zf r577.2.2.2.2.2.1),(V.int .i64 (gi r577.2.2.2.1 3)),(V.inl Za r577.2.2.2.2.2.2.1),(V.inl Ze r577.2.2.2.2.2.2.2)]))
       else none
      else none
     else none
    else none
   else none
  else none
 else none
def Zaz:Nat→Int→V→V→List V→List V→List V→List V→Option (V×List V×List V×List V×List V)
 | 0,_,_,_,_,_,_,_=>none
 | k_+1,k5,b0,b1,r2,r3,r4,r5=>
  bif (decide (k5<((r2.length:Nat):Int))) then
   bif (Zn k5 r2.length) then
    bif (!(decide ((gi (rd r2 (0+k5.toNat)) 3)=(gi b1 0)))) then
     Zaz k_ (IntKind.i64.wrap (k5+1)) (V.agg [(V.int .i64 (gi b0 0)),(V.sl 2 Zg 0 none),(V.sl 3 Zf 0 none),(V.int .i64 (gi b0 3)),(V.sl 4 Za 0 none),(V.sl 5 Ze 0 none)]) (Zdn b1) r2 r3 r4 r5
    else bif (gb b1 1) then
     Option.bind (Zdq (V.agg [(V.int .i64 (gi b0 0)),(V.inl Zg r2),(V.inl Zf r3),(V.int .i64 (gi b0 3)),(V.inl Za r4),(V.inl Ze r5)]) k5) fun r583=>
     Zaz k_ (IntKind.i64.wrap ((IntKind.i64.wrap (k5-1))+1)) (V.agg [(V.int .i64 (gi r583 0)),(V.sl 2 Zg 0 none),(V.sl 3 Zf 0 none),(V.int .i64 (gi r583 3)),(V.sl 4 Za 0 none),(V.sl 5 Ze 0 none)]) (Zdn b1) (gl r583 1) (gl r583 2) (gl r583 4) (gl r583 5)
    else bif (Zn k5 r2.length) then
     bif (Zn k5 ((r2.set (0+k5.toNat) (V.agg [(V.inl Zc (gl (rd r2 (0+k5.toNat)) 0)),(V.inl Zc (gl (rd r2 (0+k5.toNat)) 1)),(V.int .i64 (gi (rd r2 (0+k5.toNat)) 2)),(V.int .i64 0)])).length)) then
      Zaz k_ (IntKind.i64.wrap (k5+1)) (V.agg [(V.int .i64 (gi b0 0)),(V.sl 2 Zg 0 none),(V.sl 3 Zf 0 none),(V.int .i64 (gi b0 3)),(V.sl 4 Za 0 none),(V.sl 5 Ze 0 none)]) (Zdn b1) ((r2.set (0+k5.toNat) (V.agg [(V.inl Zc (gl (rd r2 (0+k5.toNat)) 0)),(V.inl Zc (gl (rd r2 (0+k5.toNat)) 1)),(V.int .i64 (gi (rd r2 (0+k5.toNat)) 2)),(V.int .i64 0)])).set (0+k5.toNat) (V.agg [(V.inl Zc (gl (rd (r2.set (0+k5.toNat) (V.agg [(V.inl Zc (gl (rd r2 (0+k5.toNat)) 0)),(V.inl Zc (gl (rd r2 (0+k5.toNat)) 1)),(V.int .i64 (gi (rd r2 (0+k5.toNat)) 2)),(V.int .i64 0)])) (0+k5.toNat)) 0)),(V.inl Zc (gl (rd (r2.set (0+k5.toNat) (V.agg [(V.inl Zc (gl (rd r2 (0+k5.toNat)) 0)),(V.inl Zc (gl (rd r2 (0+k5.toNat)) 1)),(V.int .i64 (gi (rd r2 (0+k5.toNat)) 2)),(V.int .i64 0)])) (0+k5.toNat)) 1)),(V.int .i64 (gi b0 0)),(V.int .i64 (gi (rd (r2.set (0+k5.toNat) (V.agg [(V.inl Zc (gl (rd r2 (0+k5.toNat)) 0)),(V.inl Zc (gl (rd r2 (0+k5.toNat)) 1)),(V.int .i64 (gi (rd r2 (0+k5.toNat)) 2)),(V.int .i64 0)])) (0+k5.toNat)) 3))])) r3 r4 r5
     else none
    else none
   else none
  else some ((V.agg [(V.int .i64 (gi b0 0)),(V.sl 1 Zg 0 none),(V.sl 2 Zf 0 none),(V.int .i64 (gi b0 3)),(V.sl 3 Za 0 none),(V.sl 4 Ze 0 none)]),r2,r3,r4,r5)
def Zdr (s:V) (i:Int):Option (V):=
 bif (Zn i ((gl s 4).length)) then
  bif ((decide ((0:Int)≤i))&&(decide (i≤(((gl s 4).length:Nat):Int)))) then
   bif ((Zv (0+(((gl s 4).take i.toNat).length)) 16)&&true) then
    bif ((decide ((0:Int)≤(IntKind.i64.wrap (i+1))))&&(decide ((IntKind.i64.wrap (i+1))≤(((gl s 4).length:Nat):Int)))) then
     bif ((Zv ((((gl s 4).take i.toNat).length)+(((gl s 4).drop (0+((IntKind.i64.wrap (i+1)).toNat))).length)) 16)&&true) then
      Option.bind (Zaz (((((gl s 1).length:Nat):Int)-0).toNat+1) 0 (V.agg [(V.int .i64 (gi s 0)),(V.sl 2 Zg 0 none),(V.sl 3 Zf 0 none),(V.int .i64 (gi s 3)),(V.sl 4 Za 0 none),(V.sl 5 Ze 0 none)]) (Zdn (rd (gl s 4) (0+i.toNat))) (gl s 1) (gl s 2) (((gl s 4).take i.toNat)++((gl s 4).drop (0+((IntKind.i64.wrap (i+1)).toNat)))) (gl s 5)) fun r584=>
      some (V.agg [(V.int .i64 (gi r584.1 0)),(V.inl Zg r584.2.1),(V.inl Zf r584.2.2.1),(V.int .i64 (gi r584.1 3)),(V.inl Za r584.2.2.2.1),(V.inl Ze r584.2.2.2.2)])
     else none
    else none
   else none
  else none
 else none
def Zbm (s:V) (o:V):Option (Int×V):=
 bif (decide ((0:Int)<(((gl o 1).length:Nat):Int))) then
  Option.bind (Zbq (Zd s) (gl o 1)) fun r573=>
  bif (decide ((gi o 0)=1)) then
   Option.bind (Zat (Zd s) (gl o 1) (gl o 2)) fun r578=>
   bif (!r578.1) then
    some (4,(Zd r578.2))
   else some (0,(Zd r578.2))
  else bif (decide ((gi o 0)=2)) then
   bif (decide ((0:Int)≤r573)) then
    bif (Zn r573 ((gl s 1).length)) then
     bif (!(decide ((gi (rd (gl s 1) (0+r573.toNat)) 2)=(gi o 3)))) then
      some (3,(Zd s))
     else Option.bind (Zat (Zd s) (gl o 1) (gl o 2)) fun r579=>
     bif (!r579.1) then
      some (4,(Zd r579.2))
     else some (0,(Zd r579.2))
    else none
   else bif (!(decide ((0:Int)=(gi o 3)))) then
    some (3,(Zd s))
   else Option.bind (Zat (Zd s) (gl o 1) (gl o 2)) fun r580=>
   bif (!r580.1) then
    some (4,(Zd r580.2))
   else some (0,(Zd r580.2))
  else bif (decide ((gi o 0)=3)) then
   bif (decide (r573<0)) then
    some (1,(Zd s))
   else Option.bind (Zdq (Zd s) r573) fun r581=>
   some (0,(Zd r581))
  else bif (decide ((gi o 0)=4)) then
   bif (decide ((8:Int)≤(((gl s 4).length:Nat):Int))) then
    some (4,(Zd s))
   else bif ((Zv (0+((gl s 4).length)) 16)&&true) then
    bif ((Zv (((gl s 4).length)+1) 16)&&true) then
     some (0,(V.agg [(V.int .i64 (gi s 0)),(V.inl Zg (gl s 1)),(V.inl Zf (gl s 2)),(V.int .i64 (gi s 3)),(V.inl Za ((gl s 4)++[(V.agg [(V.int .i64 (gi s 0)),(V.bool (decide ((gi o 3)=1)))])])),(V.inl Ze (gl s 5))]))
    else none
   else none
  else bif (decide ((gi o 0)=5)) then
   Option.bind (Zb9 (Zd s) (gi o 3)) fun r582=>
   bif (decide (r582<0)) then
    some (1,(Zd s))
   else Option.bind (Zdr (Zd s) r582) fun r585=>
   some (0,(Zd r585))
  else bif (decide ((gi o 0)=6)) then
   Option.bind (Zb9 (Zd s) (gi o 3)) fun r586=>
   bif (decide (r586<0)) then
    some (1,(Zd s))
   else bif (decide ((0:Int)≤r573)) then
    bif (Zn r573 ((gl s 1).length)) then
     bif (!(decide ((gi (rd (gl s 1) (0+r573.toNat)) 3)=0))) then
      bif (Zn r573 ((gl s 1).length)) then
       bif (!(decide ((gi (rd (gl s 1) (0+r573.toNat)) 3)=(gi o 3)))) then
        some (2,(Zd s))
       else Option.bind (Zat (Zd s) (gl o 1) (gl o 2)) fun r587=>
       bif (!r587.1) then
        some (4,(Zd r587.2))
       else Option.bind (Zbq (Zd r587.2) (gl o 1)) fun r588=>
       bif (Zn r588 ((gl r587.2 1).length)) then
        some (0,(V.agg [(V.int .i64 (gi r587.2 0)),(V.inl Zg ((gl r587.2 1).set (0+r588.toNat) (V.agg [(V.inl Zc (gl (rd (gl r587.2 1) (0+r588.toNat)) 0)),(V.inl Zc (gl (rd (gl r587.2 1) (0+r588.toNat)) 1)),(V.int .i64 (gi (rd (gl r587.2 1) (0+r588.toNat)) 2)),(V.int .i64 (gi o 3))]))),(V.inl Zf (gl r587.2 2)),(V.int .i64 (gi r587.2 3)),(V.inl Za (gl r587.2 4)),(V.inl Ze (gl r587.2 5))]))
       else none
      else none
     else Option.bind (Zat (Zd s) (gl o 1) (gl o 2)) fun r589=>
     bif (!r589.1) then
      some (4,(Zd r589.2))
     else Option.bind (Zbq (Zd r589.2) (gl o 1)) fun r590=>
     bif (Zn r590 ((gl r589.2 1).length)) then
      some (0,(V.agg [(V.int .i64 (gi r589.2 0)),(V.inl Zg ((gl r589.2 1).set (0+r590.toNat) (V.agg [(V.inl Zc (gl (rd (gl r589.2 1) (0+r590.toNat)) 0)),(V.inl Zc (gl (rd (gl r589.2 1) (0+r590.toNat)) 1)),(V.int .i64 (gi (rd (gl r589.2 1) (0+r590.toNat)) 2)),(V.int .i64 (gi o 3))]))),(V.inl Zf (gl r589.2 2)),(V.int .i64 (gi r589.2 3)),(V.inl Za (gl r589.2 4)),(V.inl Ze (gl r589.2 5))]))
     else none
    else none
   else Option.bind (Zat (Zd s) (gl o 1) (gl o 2)) fun r591=>
   bif (!r591.1) then
    some (4,(Zd r591.2))
   else Option.bind (Zbq (Zd r591.2) (gl o 1)) fun r592=>
   bif (Zn r592 ((gl r591.2 1).length)) then
    some (0,(V.agg [(V.int .i64 (gi r591.2 0)),(V.inl Zg ((gl r591.2 1).set (0+r592.toNat) (V.agg [(V.inl Zc (gl (rd (gl r591.2 1) (0+r592.toNat)) 0)),(V.inl Zc (gl (rd (gl r591.2 1) (0+r592.toNat)) 1)),(V.int .i64 (gi (rd (gl r591.2 1) (0+r592.toNat)) 2)),(V.int .i64 (gi o 3))]))),(V.inl Zf (gl r591.2 2)),(V.int .i64 (gi r591.2 3)),(V.inl Za (gl r591.2 4)),(V.inl Ze (gl r591.2 5))]))
   else none
  else bif (decide ((gi o 0)=7)) then
   bif (decide (r573<0)) then
    some (1,(Zd s))
   else bif (Zn r573 ((gl s 1).length)) then
    bif (!(decide ((gi (rd (gl s 1) (0+r573.toNat)) 3)=(gi o 3)))) then
     some (1,(Zd s))
    else bif (Zn r573 ((gl s 1).length)) then
     bif (Zn r573 (((gl s 1).set (0+r573.toNat) (V.agg [(V.inl Zc (gl (rd (gl s 1) (0+r573.toNat)) 0)),(V.inl Zc (gl (rd (gl s 1) (0+r573.toNat)) 1)),(V.int .i64 (gi (rd (gl s 1) (0+r573.toNat)) 2)),(V.int .i64 0)])).length)) then
      some (0,(V.agg [(V.int .i64 (gi s 0)),(V.inl Zg (((gl s 1).set (0+r573.toNat) (V.agg [(V.inl Zc (gl (rd (gl s 1) (0+r573.toNat)) 0)),(V.inl Zc (gl (rd (gl s 1) (0+r573.toNat)) 1)),(V.int .i64 (gi (rd (gl s 1) (0+r573.toNat)) 2)),(V.int .i64 0)])).set (0+r573.toNat) (V.agg [(V.inl Zc (gl (rd ((gl s 1).set (0+r573.toNat) (V.agg [(V.inl Zc (gl (rd (gl s 1) (0+r573.toNat)) 0)),(V.inl Zc (gl (rd (gl s 1) (0+r573.toNat)) 1)),(V.int .i64 (gi (rd (gl s 1) (0+r573.toNat)) 2)),(V.int .i64 0)])) (0+r573.toNat)) 0)),(V.inl Zc (gl (rd ((gl s 1).set (0+r573.toNat) (V.agg [(V.inl Zc (gl (rd (gl s 1) (0+r573.toNat)) 0)),(V.inl Zc (gl (rd (gl s 1) (0+r573.toNat)) 1)),(V.int .i64 (gi (rd (gl s 1) (0+r573.toNat)) 2)),(V.int .i64 0)])) (0+r573.toNat)) 1)),(V.int .i64 (gi s 0)),(V.int .i64 (gi (rd ((gl s 1).set (0+r573.toNat) (V.agg [(V.inl Zc (gl (rd (gl s 1) (0+r573.toNat)) 0)),(V.inl Zc (gl (rd (gl s 1) (0+r573.toNat)) 1)),(V.int .i64 (gi (rd (gl s 1) (0+r573.toNat)) 2)),(V.int .i64 0)])) (0+r573.toNat)) 3))]))),(V.inl Zf (gl s 2)),(V.int .i64 (gi s 3)),(V.inl Za (gl s 4)),(V.inl Ze (gl s 5))]))
     else none
    else none
   else none
  else some (0,(Zd s))
 else bif (decide ((gi o 0)=1)) then
  Option.bind (Zat (Zd s) (gl o 1) (gl o 2)) fun r593=>
  bif (!r593.1) then
   some (4,(Zd r593.2))
  else some (0,(Zd r593.2))
 else bif (decide ((gi o 0)=2)) then
  bif (!(decide ((0:Int)=(gi o 3)))) then
   some (3,(Zd s))
  else Option.bind (Zat (Zd s) (gl o 1) (gl o 2)) fun r594=>
  bif (!r594.1) then
   some (4,(Zd r594.2))
  else some (0,(Zd r594.2))
 else bif (decide ((gi o 0)=3)) then
  some (1,(Zd s))
 else bif (decide ((gi o 0)=4)) then
  bif (decide ((8:Int)≤(((gl s 4).length:Nat):Int))) then
   some (4,(Zd s))
  else bif ((Zv (0+((gl s 4).length)) 16)&&true) then
   bif ((Zv (((gl s 4).length)+1) 16)&&true) then
    some (0,(V.agg [(V.int .i64 (gi s 0)),(V.inl Zg (gl s 1)),(V.inl Zf (gl s 2)),(V.int .i64 (gi s 3)),(V.inl Za ((gl s 4)++[(V.agg [(V.int .i64 (gi s 0)),(V.bool (decide ((gi o 3)=1)))])])),(V.inl Ze (gl s 5))]))
   else none
  else none
 else bif (decide ((gi o 0)=5)) then
  Option.bind (Zb9 (Zd s) (gi o 3)) fun r595=>
  bif (decide (r595<0)) then
   some (1,(Zd s))
  else Option.bind (Zdr (Zd s) r595) fun r596=>
  some (0,(Zd r596))
 else bif (decide ((gi o 0)=6)) then
  Option.bind (Zb9 (Zd s) (gi o 3)) fun r597=>
  bif (decide (r597<0)) then
   some (1,(Zd s))
  else Option.bind (Zat (Zd s) (gl o 1) (gl o 2)) fun r598=>
  bif (!r598.1) then
   some (4,(Zd r598.2))
  else Option.bind (Zbq (Zd r598.2) (gl o 1)) fun r599=>
  bif (Zn r599 ((gl r598.2 1).length)) then
   some (0,(V.agg [(V.int .i64 (gi r598.2 0)),(V.inl Zg ((gl r598.2 1).set (0+r599.toNat) (V.agg [(V.inl Zc (gl (rd (gl r598.2 1) (0+r599.toNat)) 0)),(V.inl Zc (gl (rd (gl r598.2 1) (0+r599.toNat)) 1)),(V.int .i64 (gi (rd (gl r598.2 1) (0+r599.toNat)) 2)),(V.int .i64 (gi o 3))]))),(V.inl Zf (gl r598.2 2)),(V.int .i64 (gi r598.2 3)),(V.inl Za (gl r598.2 4)),(V.inl Ze (gl r598.2 5))]))
  else none
 else bif (decide ((gi o 0)=7)) then
  some (1,(Zd s))
 else some (0,(Zd s))
def Zar:Nat→Int→V→V→V→V→List V→List V→List V→List V→Option (Int×V×V×V×V×List V×List V×List V×List V)
 | 0,_,_,_,_,_,_,_,_,_=>none
 | k_+1,k6,b0,b1,b2,b3,r4,r5,r6,r7=>
  bif (decide (k6<((r7.length:Nat):Int))) then
   bif (Zn k6 r7.length) then
    bif (decide ((gi (rd r7 (0+k6.toNat)) 0)<(gi b1 0))) then
     Zar k_ (IntKind.i64.wrap (k6+1)) (V.agg [(V.int .i64 (gi b0 0)),(V.sl 4 Zg 0 none),(V.sl 5 Zf 0 none),(V.int .i64 (gi b0 3)),(V.sl 6 Za 0 none),(V.sl 7 Ze 0 none)]) (Zl b1) (ZA b2) (ZA b3) r4 r5 r6 r7
    else some (k6,(V.agg [(V.int .i64 (gi b0 0)),(V.sl 4 Zg 0 none),(V.sl 5 Zf 0 none),(V.int .i64 (gi b0 3)),(V.sl 6 Za 0 none),(V.sl 7 Ze 0 none)]),(Zl b1),(ZA b2),(ZA b3),r4,r5,r6,r7)
   else none
  else some (k6,(V.agg [(V.int .i64 (gi b0 0)),(V.sl 4 Zg 0 none),(V.sl 5 Zf 0 none),(V.int .i64 (gi b0 3)),(V.sl 6 Za 0 none),(V.sl 7 Ze 0 none)]),(Zl b1),(ZA b2),(ZA b3),r4,r5,r6,r7)
def ZK (s:V) (c:V):Option (V×V):=
 bif (decide ((gi c 0)<0)) then
  some ((V.agg [(V.int .i64 0),(V.int .i64 (IntKind.i64.wrap ((gi s 0)+1)))]),(V.agg [(V.int .i64 (IntKind.i64.wrap ((gi s 0)+1))),(V.inl Zg (gl s 1)),(V.inl Zf (gl s 2)),(V.int .i64 (gi s 3)),(V.inl Za (gl s 4)),(V.inl Ze (gl s 5))]))
 else Option.bind (Zar (((((gl s 5).length:Nat):Int)-0).toNat+1) 0 (V.agg [(V.int .i64 (IntKind.i64.wrap ((gi s 0)+1))),(V.sl 4 Zg 0 none),(V.sl 5 Zf 0 none),(V.int .i64 (gi s 3)),(V.sl 6 Za 0 none),(V.sl 7 Ze 0 none)]) (Zl c) (V.agg [(V.int .i64 0),(V.int .i64 0)]) (V.agg [(V.int .i64 0),(V.int .i64 (IntKind.i64.wrap ((gi s 0)+1)))]) (gl s 1) (gl s 2) (gl s 4) (gl s 5)) fun r572=>
 bif (decide (r572.1<((r572.2.2.2.2.2.2.2.2.length:Nat):Int))) then
  bif (Zn r572.1 r572.2.2.2.2.2.2.2.2.length) then
   bif (decide ((gi (rd r572.2.2.2.2.2.2.2.2 (0+r572.1.toNat)) 0)=(gi r572.2.2.1 0))) then
    bif (Zn r572.1 r572.2.2.2.2.2.2.2.2.length) then
     bif (decide ((gi (rd r572.2.2.2.2.2.2.2.2 (0+r572.1.toNat)) 1)=(gi r572.2.2.1 1))) then
      bif (Zn r572.1 r572.2.2.2.2.2.2.2.2.length) then
       some ((V.agg [(V.int .i64 (gi (rd r572.2.2.2.2.2.2.2.2 (0+r572.1.toNat)) 2)),(V.int .i64 (gi (rd r572.2.2.2.2.2.2.2.2 (0+r572.1.toNat)) 3))]),(V.agg [(V.int .i64 (gi r572.2.1 0)),(V.inl Zg r572.2.2.2.2.2.1),(V.inl Zf r572.2.2.2.2.2.2.1),(V.int .i64 (gi r572.2.1 3)),(V.inl Za r572.2.2.2.2.2.2.2.1),(V.inl Ze r572.2.2.2.2.2.2.2.2)]))
      else none
     else bif (Zn r572.1 r572.2.2.2.2.2.2.2.2.length) then
      bif (decide ((gi r572.2.2.1 1)<(gi (rd r572.2.2.2.2.2.2.2.2 (0+r572.1.toNat)) 1))) then
       some ((V.agg [(V.int .i64 5),(V.int .i64 (gi r572.2.2.2.2.1 1))]),(V.agg [(V.int .i64 (gi r572.2.1 0)),(V.inl Zg r572.2.2.2.2.2.1),(V.inl Zf r572.2.2.2.2.2.2.1),(V.int .i64 (gi r572.2.1 3)),(V.inl Za r572.2.2.2.2.2.2.2.1),(V.inl Ze r572.2.2.2.2.2.2.2.2)]))
      else Option.bind (Zbm (V.agg [(V.int .i64 (gi r572.2.1 0)),(V.inl Zg r572.2.2.2.2.2.1),(V.inl Zf r572.2.2.2.2.2.2.1),(V.int .i64 (gi r572.2.1 3)),(V.inl Za r572.2.2.2.2.2.2.2.1),(V.inl Ze r572.2.2.2.2.2.2.2.2)]) (V.agg [(V.int .i64 (gi r572.2.2.1 2)),(V.inl Zc (gl r572.2.2.1 3)),(V.inl Zc (gl r572.2.2.1 4)),(V.int .i64 (gi r572.2.2.1 5))])) fun r600=>
      bif (Zn r572.1 ((gl r600.2 5).length)) then
       bif (Zn r572.1 (((gl r600.2 5).set (0+r572.1.toNat) (V.agg [(V.int .i64 (gi (rd (gl r600.2 5) (0+r572.1.toNat)) 0)),(V.int .i64 (gi r572.2.2.1 1)),(V.int .i64 (gi (rd (gl r600.2 5) (0+r572.1.toNat)) 2)),(V.int .i64 (gi (rd (gl r600.2 5) (0+r572.1.toNat)) 3))])).length)) then
        some ((V.agg [(V.int .i64 r600.1),(V.int .i64 (gi r572.2.2.2.2.1 1))]),(V.agg [(V.int .i64 (gi r600.2 0)),(V.inl Zg (gl r600.2 1)),(V.inl Zf (gl r600.2 2)),(V.int .i64 (gi r600.2 3)),(V.inl Za (gl r600.2 4)),(V.inl Ze (((gl r600.2 5).set (0+r572.1.toNat) (V.agg [(V.int .i64 (gi (rd (gl r600.2 5) (0+r572.1.toNat)) 0)),(V.int .i64 (gi r572.2.2.1 1)),(V.int .i64 (gi (rd (gl r600.2 5) (0+r572.1.toNat)) 2)),(V.int .i64 (gi (rd (gl r600.2 5) (0+r572.1.toNat)) 3))])).set (0+r572.1.toNat) (V.agg [(V.int .i64 (gi (rd ((gl r600.2 5).set (0+r572.1.toNat) (V.agg [(V.int .i64 (gi (rd (gl r600.2 5) (0+r572.1.toNat)) 0)),(V.int .i64 (gi r572.2.2.1 1)),(V.int .i64 (gi (rd (gl r600.2 5) (0+r572.1.toNat)) 2)),(V.int .i64 (gi (rd (gl r600.2 5) (0+r572.1.toNat)) 3))])) (0+r572.1.toNat)) 0)),(V.int .i64 (gi (rd ((gl r600.2 5).set (0+r572.1.toNat) (V.agg [(V.int .i64 (gi (rd (gl r600.2 5) (0+r572.1.toNat)) 0)),(V.int .i64 (gi r572.2.2.1 1)),(V.int .i64 (gi (rd (gl r600.2 5) (0+r572.1.toNat)) 2)),(V.int .i64 (gi (rd (gl r600.2 5) (0+r572.1.toNat)) 3))])) (0+r572.1.toNat)) 1)),(V.int .i64 r600.1),(V.int .i64 (gi r572.2.2.2.2.1 1))])))]))
       else none
      else none
     else none
    else none
   else Option.bind (Zbm (V.agg [(V.int .i64 (gi r572.2.1 0)),(V.inl Zg r572.2.2.2.2.2.1),(V.inl Zf r572.2.2.2.2.2.2.1),(V.int .i64 (gi r572.2.1 3)),(V.inl Za r572.2.2.2.2.2.2.2.1),(V.inl Ze r572.2.2.2.2.2.2.2.2)]) (V.agg [(V.int .i64 (gi r572.2.2.1 2)),(V.inl Zc (gl r572.2.2.1 3)),(V.inl Zc (gl r572.2.2.1 4)),(V.int .i64 (gi r572.2.2.1 5))])) fun r601=>
   bif ((decide ((0:Int)≤r572.1))&&(decide (r572.1≤(((gl r601.2 5).length:Nat):Int)))) then
    bif ((Zv (0+(((gl r601.2 5).take r572.1.toNat).length)) 32)&&true) then
     bif ((Zv ((((gl r601.2 5).take r572.1.toNat).length)+1) 32)&&true) then
      bif ((decide ((0:Int)≤r572.1))&&(decide (r572.1≤(((gl r601.2 5).length:Nat):Int)))) then
       bif ((Zv (((((gl r601.2 5).take r572.1.toNat)++[(V.agg [(V.int .i64 (gi r572.2.2.1 0)),(V.int .i64 (gi r572.2.2.1 1)),(V.int .i64 r601.1),(V.int .i64 (gi r572.2.2.2.2.1 1))])]).length)+(((gl r601.2 5).drop (0+r572.1.toNat)).length)) 32)&&true) then
        some ((V.agg [(V.int .i64 r601.1),(V.int .i64 (gi r572.2.2.2.2.1 1))]),(V.agg [(V.int .i64 (gi r601.2 0)),(V.inl Zg (gl r601.2 1)),(V.inl Zf (gl r601.2 2)),(V.int .i64 (gi r601.2 3)),(V.inl Za (gl r601.2 4)),(V.inl Ze ((((gl r601.2 5).take r572.1.toNat)++[(V.agg [(V.int .i64 (gi r572.2.2.1 0)),(V.int .i64 (gi r572.2.2.1 1)),(V.int .i64 r601.1),(V.int .i64 (gi r572.2.2.2.2.1 1))])])++((gl r601.2 5).drop (0+r572.1.toNat))))]))
       else none
      else none
     else none
    else none
   else none
  else none
 else Option.bind (Zbm (V.agg [(V.int .i64 (gi r572.2.1 0)),(V.inl Zg r572.2.2.2.2.2.1),(V.inl Zf r572.2.2.2.2.2.2.1),(V.int .i64 (gi r572.2.1 3)),(V.inl Za r572.2.2.2.2.2.2.2.1),(V.inl Ze r572.2.2.2.2.2.2.2.2)]) (V.agg [(V.int .i64 (gi r572.2.2.1 2)),(V.inl Zc (gl r572.2.2.1 3)),(V.inl Zc (gl r572.2.2.1 4)),(V.int .i64 (gi r572.2.2.1 5))])) fun r602=>
 bif ((decide ((0:Int)≤r572.1))&&(decide (r572.1≤(((gl r602.2 5).length:Nat):Int)))) then
  bif ((Zv (0+(((gl r602.2 5).take r572.1.toNat).length)) 32)&&true) then
   bif ((Zv ((((gl r602.2 5).take r572.1.toNat).length)+1) 32)&&true) then
    bif ((decide ((0:Int)≤r572.1))&&(decide (r572.1≤(((gl r602.2 5).length:Nat):Int)))) then
     bif ((Zv (((((gl r602.2 5).take r572.1.toNat)++[(V.agg [(V.int .i64 (gi r572.2.2.1 0)),(V.int .i64 (gi r572.2.2.1 1)),(V.int .i64 r602.1),(V.int .i64 (gi r572.2.2.2.2.1 1))])]).length)+(((gl r602.2 5).drop (0+r572.1.toNat)).length)) 32)&&true) then
      some ((V.agg [(V.int .i64 r602.1),(V.int .i64 (gi r572.2.2.2.2.1 1))]),(V.agg [(V.int .i64 (gi r602.2 0)),(V.inl Zg (gl r602.2 1)),(V.inl Zf (gl r602.2 2)),(V.int .i64 (gi r602.2 3)),(V.inl Za (gl r602.2 4)),(V.inl Ze ((((gl r602.2 5).take r572.1.toNat)++[(V.agg [(V.int .i64 (gi r572.2.2.1 0)),(V.int .i64 (gi r572.2.2.1 1)),(V.int .i64 r602.1),(V.int .i64 (gi r572.2.2.2.2.1 1))])])++((gl r602.2 5).drop (0+r572.1.toNat))))]))
     else none
    else none
   else none
  else none
 else none
def ZG:Nat→Int→Int→V→V→V→List V→List V→List V→List V→List V→List V→List V→List V→Option (V×V×V×List V×List V×List V×List V×List V×List V×List V×List V)
 | 0,_,_,_,_,_,_,_,_,_,_,_,_,_=>none
 | k_+1,n4,i5,b0,b1,b2,r3,r4,r5,r6,r7,r8,r9,r10=>
  bif (decide (i5<n4)) then
   Option.bind (Zh (Zb b0) 3) fun r568=>
   Option.bind (ZfC (Zb r568.2) (gi b2 0)) fun r569=>
   bif (decide (i5=0)) then
    Option.bind (Zh (Zb r569.2) 2) fun r570=>
    Option.bind (ZY (Zb r570.2) 9) fun r571=>
    bif r571.1 then
     Option.bind (ZK (V.agg [(V.int .i64 (gi b2 0)),(V.inl Zg r7),(V.inl Zf r8),(V.int .i64 (gi b2 3)),(V.inl Za r9),(V.inl Ze r10)]) (V.agg [(V.int .i64 (-1)),(V.int .i64 0),(V.int .i64 0),(V.inl Zc []),(V.inl Zc []),(V.int .i64 0)])) fun r603=>
     ZG k_ n4 (IntKind.i64.wrap (i5+1)) (Zb r571.2) (V.agg [(V.int .i64 (gi b1 0)),(V.sl 3 Zg 0 none),(V.sl 4 Zf 0 none),(V.int .i64 (gi b1 3)),(V.sl 5 Za 0 none),(V.sl 6 Ze 0 none)]) (V.agg [(V.int .i64 (gi r603.2 0)),(V.sl 7 Zg 0 none),(V.sl 8 Zf 0 none),(V.int .i64 (gi r603.2 3)),(V.sl 9 Za 0 none),(V.sl 10 Ze 0 none)]) r3 r4 r5 r6 (gl r603.2 1) (gl r603.2 2) (gl r603.2 4) (gl r603.2 5)
    else Option.bind (ZK (V.agg [(V.int .i64 (gi b2 0)),(V.inl Zg r7),(V.inl Zf r8),(V.int .i64 (gi b2 3)),(V.inl Za r9),(V.inl Ze r10)]) (V.agg [(V.int .i64 r568.1),(V.int .i64 (IntKind.i64.wrap (1+i5))),(V.int .i64 4),(V.inl Zc []),(V.inl Zc []),(V.int .i64 r570.1)])) fun r604=>
    ZG k_ n4 (IntKind.i64.wrap (i5+1)) (Zb r571.2) (V.agg [(V.int .i64 (gi b1 0)),(V.sl 3 Zg 0 none),(V.sl 4 Zf 0 none),(V.int .i64 (gi b1 3)),(V.sl 5 Za 0 none),(V.sl 6 Ze 0 none)]) (V.agg [(V.int .i64 (gi r604.2 0)),(V.sl 7 Zg 0 none),(V.sl 8 Zf 0 none),(V.int .i64 (gi r604.2 3)),(V.sl 9 Za 0 none),(V.sl 10 Ze 0 none)]) r3 r4 r5 r6 (gl r604.2 1) (gl r604.2 2) (gl r604.2 4) (gl r604.2 5)
   else bif (decide ((5:Int)≤(gi r569.1 0))) then
    bif (decide ((0:Int)<((r9.length:Nat):Int))) then
     Option.bind (ZY (Zb r569.2) 3) fun r605=>
     bif (!r605.1) then
      Option.bind (Zh (Zb r605.2) ((r9.length:Nat):Int)) fun r606=>
      bif (Zn r606.1 r9.length) then
       Option.bind (ZY (Zb r606.2) 9) fun r607=>
       bif r607.1 then
        Option.bind (ZK (V.agg [(V.int .i64 (gi b2 0)),(V.inl Zg r7),(V.inl Zf r8),(V.int .i64 (gi b2 3)),(V.inl Za r9),(V.inl Ze r10)]) (V.agg [(V.int .i64 (-1)),(V.int .i64 0),(V.int .i64 0),(V.inl Zc []),(V.inl Zc []),(V.int .i64 0)])) fun r608=>
        ZG k_ n4 (IntKind.i64.wrap (i5+1)) (Zb r607.2) (V.agg [(V.int .i64 (gi b1 0)),(V.sl 3 Zg 0 none),(V.sl 4 Zf 0 none),(V.int .i64 (gi b1 3)),(V.sl 5 Za 0 none),(V.sl 6 Ze 0 none)]) (V.agg [(V.int .i64 (gi r608.2 0)),(V.sl 7 Zg 0 none),(V.sl 8 Zf 0 none),(V.int .i64 (gi r608.2 3)),(V.sl 9 Za 0 none),(V.sl 10 Ze 0 none)]) r3 r4 r5 r6 (gl r608.2 1) (gl r608.2 2) (gl r608.2 4) (gl r608.2 5)
       else Option.bind (ZK (V.agg [(V.int .i64 (gi b2 0)),(V.inl Zg r7),(V.inl Zf r8),(V.int .i64 (gi b2 3)),(V.inl Za r9),(V.inl Ze r10)]) (V.agg [(V.int .i64 r568.1),(V.int .i64 (IntKind.i64.wrap (1+i5))),(V.int .i64 (gi r569.1 0)),(V.inl Zc (gl r569.1 1)),(V.inl Zc (gl r569.1 2)),(V.int .i64 (gi (rd r9 (0+r606.1.toNat)) 0))])) fun r609=>
       ZG k_ n4 (IntKind.i64.wrap (i5+1)) (Zb r607.2) (V.agg [(V.int .i64 (gi b1 0)),(V.sl 3 Zg 0 none),(V.sl 4 Zf 0 none),(V.int .i64 (gi b1 3)),(V.sl 5 Za 0 none),(V.sl 6 Ze 0 none)]) (V.agg [(V.int .i64 (gi r609.2 0)),(V.sl 7 Zg 0 none),(V.sl 8 Zf 0 none),(V.int .i64 (gi r609.2 3)),(V.sl 9 Za 0 none),(V.sl 10 Ze 0 none)]) r3 r4 r5 r6 (gl r609.2 1) (gl r609.2 2) (gl r609.2 4) (gl r609.2 5)
      else none
     else Option.bind (ZY (Zb r605.2) 9) fun r610=>
     bif r610.1 then
      Option.bind (ZK (V.agg [(V.int .i64 (gi b2 0)),(V.inl Zg r7),(V.inl Zf r8),(V.int .i64 (gi b2 3)),(V.inl Za r9),(V.inl Ze r10)]) (V.agg [(V.int .i64 (-1)),(V.int .i64 0),(V.int .i64 0),(V.inl Zc []),(V.inl Zc []),(V.int .i64 0)])) fun r611=>
      ZG k_ n4 (IntKind.i64.wrap (i5+1)) (Zb r610.2) (V.agg [(V.int .i64 (gi b1 0)),(V.sl 3 Zg 0 none),(V.sl 4 Zf 0 none),(V.int .i64 (gi b1 3)),(V.sl 5 Za 0 none),(V.sl 6 Ze 0 none)]) (V.agg [(V.int .i64 (gi r611.2 0)),(V.sl 7 Zg 0 none),(V.sl 8 Zf 0 none),(V.int .i64 (gi r611.2 3)),(V.sl 9 Za 0 none),(V.sl 10 Ze 0 none)]) r3 r4 r5 r6 (gl r611.2 1) (gl r611.2 2) (gl r611.2 4) (gl r611.2 5)
     else Option.bind (ZK (V.agg [(V.int .i64 (gi b2 0)),(V.inl Zg r7),(V.inl Zf r8),(V.int .i64 (gi b2 3)),(V.inl Za r9),(V.inl Ze r10)]) (V.agg [(V.int .i64 r568.1),(V.int .i64 (IntKind.i64.wrap (1+i5))),(V.int .i64 (gi r569.1 0)),(V.inl Zc (gl r569.1 1)),(V.inl Zc (gl r569.1 2)),(V.int .i64 (gi r569.1 3))])) fun r612=>
     ZG k_ n4 (IntKind.i64.wrap (i5+1)) (Zb r610.2) (V.agg [(V.int .i64 (gi b1 0)),(V.sl 3 Zg 0 none),(V.sl 4 Zf 0 none),(V.int .i64 (gi b1 3)),(V.sl 5 Za 0 none),(V.sl 6 Ze 0 none)]) (V.agg [(V.int .i64 (gi r612.2 0)),(V.sl 7 Zg 0 none),(V.sl 8 Zf 0 none),(V.int .i64 (gi r612.2 3)),(V.sl 9 Za 0 none),(V.sl 10 Ze 0 none)]) r3 r4 r5 r6 (gl r612.2 1) (gl r612.2 2) (gl r612.2 4) (gl r612.2 5)
    else Option.bind (ZY (Zb r569.2) 9) fun r613=>
    bif r613.1 then
     Option.bind (ZK (V.agg [(V.int .i64 (gi b2 0)),(V.inl Zg r7),(V.inl Zf r8),(V.int .i64 (gi b2 3)),(V.inl Za r9),(V.inl Ze r10)]) (V.agg [(V.int .i64 (-1)),(V.int .i64 0),(V.int .i64 0),(V.inl Zc []),(V.inl Zc []),(V.int .i64 0)])) fun r614=>
     ZG k_ n4 (IntKind.i64.wrap (i5+1)) (Zb r613.2) (V.agg [(V.int .i64 (gi b1 0)),(V.sl 3 Zg 0 none),(V.sl 4 Zf 0 none),(V.int .i64 (gi b1 3)),(V.sl 5 Za 0 none),(V.sl 6 Ze 0 none)]) (V.agg [(V.int .i64 (gi r614.2 0)),(V.sl 7 Zg 0 none),(V.sl 8 Zf 0 none),(V.int .i64 (gi r614.2 3)),(V.sl 9 Za 0 none),(V.sl 10 Ze 0 none)]) r3 r4 r5 r6 (gl r614.2 1) (gl r614.2 2) (gl r614.2 4) (gl r614.2 5)
    else Option.bind (ZK (V.agg [(V.int .i64 (gi b2 0)),(V.inl Zg r7),(V.inl Zf r8),(V.int .i64 (gi b2 3)),(V.inl Za r9),(V.inl Ze r10)]) (V.agg [(V.int .i64 r568.1),(V.int .i64 (IntKind.i64.wrap (1+i5))),(V.int .i64 (gi r569.1 0)),(V.inl Zc (gl r569.1 1)),(V.inl Zc (gl r569.1 2)),(V.int .i64 (gi r569.1 3))])) fun r615=>
    ZG k_ n4 (IntKind.i64.wrap (i5+1)) (Zb r613.2) (V.agg [(V.int .i64 (gi b1 0)),(V.sl 3 Zg 0 none),(V.sl 4 Zf 0 none),(V.int .i64 (gi b1 3)),(V.sl 5 Za 0 none),(V.sl 6 Ze 0 none)]) (V.agg [(V.int .i64 (gi r615.2 0)),(V.sl 7 Zg 0 none),(V.sl 8 Zf 0 none),(V.int .i64 (gi r615.2 3)),(V.sl 9 Za 0 none),(V.sl 10 Ze 0 none)]) r3 r4 r5 r6 (gl r615.2 1) (gl r615.2 2) (gl r615.2 4) (gl r615.2 5)
   else Option.bind (ZY (Zb r569.2) 9) fun r616=>
   bif r616.1 then
    Option.bind (ZK (V.agg [(V.int .i64 (gi b2 0)),(V.inl Zg r7),(V.inl Zf r8),(V.int .i64 (gi b2 3)),(V.inl Za r9),(V.inl Ze r10)]) (V.agg [(V.int .i64 (-1)),(V.int .i64 0),(V.int .i64 0),(V.inl Zc []),(V.inl Zc []),(V.int .i64 0)])) fun r617=>
    ZG k_ n4 (IntKind.i64.wrap (i5+1)) (Zb r616.2) (V.agg [(V.int .i64 (gi b1 0)),(V.sl 3 Zg 0 none),(V.sl 4 Zf 0 none),(V.int .i64 (gi b1 3)),(V.sl 5 Za 0 none),(V.sl 6 Ze 0 none)]) (V.agg [(V.int .i64 (gi r617.2 0)),(V.sl 7 Zg 0 none),(V.sl 8 Zf 0 none),(V.int .i64 (gi r617.2 3)),(V.sl 9 Za 0 none),(V.sl 10 Ze 0 none)]) r3 r4 r5 r6 (gl r617.2 1) (gl r617.2 2) (gl r617.2 4) (gl r617.2 5)
   else Option.bind (ZK (V.agg [(V.int .i64 (gi b2 0)),(V.inl Zg r7),(V.inl Zf r8),(V.int .i64 (gi b2 3)),(V.inl Za r9),(V.inl Ze r10)]) (V.agg [(V.int .i64 r568.1),(V.int .i64 (IntKind.i64.wrap (1+i5))),(V.int .i64 (gi r569.1 0)),(V.inl Zc (gl r569.1 1)),(V.inl Zc (gl r569.1 2)),(V.int .i64 (gi r569.1 3))])) fun r618=>
   ZG k_ n4 (IntKind.i64.wrap (i5+1)) (Zb r616.2) (V.agg [(V.int .i64 (gi b1 0)),(V.sl 3 Zg 0 none),(V.sl 4 Zf 0 none),(V.int .i64 (gi b1 3)),(V.sl 5 Za 0 none),(V.sl 6 Ze 0 none)]) (V.agg [(V.int .i64 (gi r618.2 0)),(V.sl 7 Zg 0 none),(V.sl 8 Zf 0 none),(V.int .i64 (gi r618.2 3)),(V.sl 9 Za 0 none),(V.sl 10 Ze 0 none)]) r3 r4 r5 r6 (gl r618.2 1) (gl r618.2 2) (gl r618.2 4) (gl r618.2 5)
  else some ((Zb b0),(V.agg [(V.int .i64 (gi b1 0)),(V.sl 3 Zg 0 none),(V.sl 4 Zf 0 none),(V.int .i64 (gi b1 3)),(V.sl 5 Za 0 none),(V.sl 6 Ze 0 none)]),(V.agg [(V.int .i64 (gi b2 0)),(V.sl 7 Zg 0 none),(V.sl 8 Zf 0 none),(V.int .i64 (gi b2 3)),(V.sl 9 Za 0 none),(V.sl 10 Ze 0 none)]),r3,r4,r5,r6,r7,r8,r9,r10)
def Ze3 (c:V):Option (V×V):=
 Option.bind (Zh (Zb c) 20) fun r567=>
 Option.bind (ZG ((r567.1-0).toNat+1) r567.1 0 (Zb r567.2) (V.agg [(V.int .i64 0),(V.sl 3 Zg 0 none),(V.sl 4 Zf 0 none),(V.int .i64 0),(V.sl 5 Za 0 none),(V.sl 6 Ze 0 none)]) (V.agg [(V.int .i64 0),(V.sl 7 Zg 0 none),(V.sl 8 Zf 0 none),(V.int .i64 0),(V.sl 9 Za 0 none),(V.sl 10 Ze 0 none)]) [] [] [] [] [] [] [] []) fun r619=>
 some ((V.agg [(V.int .i64 (gi r619.2.2.1 0)),(V.inl Zg r619.2.2.2.2.2.2.2.1),(V.inl Zf r619.2.2.2.2.2.2.2.2.1),(V.int .i64 (gi r619.2.2.1 3)),(V.inl Za r619.2.2.2.2.2.2.2.2.2.1),(V.inl Ze r619.2.2.2.2.2.2.2.2.2.2)]),(Zb r619.1))
def Zfs (c:V):Option (V×V):=
 Option.bind (Ze3 (Zb c)) fun r620=>
 Option.bind (ZY (Zb r620.2) 6) fun r621=>
 bif (!r621.1) then
  some ((Zd r620.1),(Zb r621.2))
 else Option.bind (Zh (Zb r621.2) 8) fun r622=>
 bif (decide (r622.1=0)) then
  Option.bind (ZN (Zb r622.2) [(V.int .i64 (-1)),(V.int .i64 0),(V.int .i64 1000000),(V.int .i64 1000001)]) fun r623=>
  some ((V.agg [(V.int .i64 r623.1),(V.inl Zg (gl r620.1 1)),(V.inl Zf (gl r620.1 2)),(V.int .i64 (gi r620.1 3)),(V.inl Za (gl r620.1 4)),(V.inl Ze (gl r620.1 5))]),(Zb r623.2))
 else bif (decide (r622.1=1)) then
  bif (decide ((0:Int)<(((gl r620.1 1).length:Nat):Int))) then
   Option.bind (Zh (Zb r622.2) 9) fun r624=>
   bif (Zn 0 ((gl r620.1 1).length)) then
    some ((V.agg [(V.int .i64 (gi r620.1 0)),(V.inl Zg ((gl r620.1 1).set 0 (V.agg [(V.inl Zc (gl (rd (gl r620.1 1) 0) 0)),(V.inl Zc (gl (rd (gl r620.1 1) 0) 1)),(V.int .i64 (gi (rd (gl r620.1 1) 0) 2)),(V.int .i64 r624.1)]))),(V.inl Zf (gl r620.1 2)),(V.int .i64 (gi r620.1 3)),(V.inl Za (gl r620.1 4)),(V.inl Ze (gl r620.1 5))]),(Zb r624.2))
   else none
  else some ((Zd r620.1),(Zb r622.2))
 else bif (decide (r622.1=2)) then
  bif (decide ((0:Int)<(((gl r620.1 1).length:Nat):Int))) then
   Option.bind (ZN (Zb r622.2) [(V.int .i64 0),(V.int .i64 1),(V.int .i64 999)]) fun r625=>
   bif (Zn 0 ((gl r620.1 1).length)) then
    some ((V.agg [(V.int .i64 (gi r620.1 0)),(V.inl Zg ((gl r620.1 1).set 0 (V.agg [(V.inl Zc (gl (rd (gl r620.1 1) 0) 0)),(V.inl Zc (gl (rd (gl r620.1 1) 0) 1)),(V.int .i64 r625.1),(V.int .i64 (gi (rd (gl r620.1 1) 0) 3))]))),(V.inl Zf (gl r620.1 2)),(V.int .i64 (gi r620.1 3)),(V.inl Za (gl r620.1 4)),(V.inl Ze (gl r620.1 5))]),(Zb r625.2))
   else none
  else some ((Zd r620.1),(Zb r622.2))
 else bif (decide (r622.1=3)) then
  Option.bind (Za7 (Zb r622.2)) fun r626=>
  bif ((Zv (((gl r620.1 2).length)+1) 32)&&true) then
   some ((V.agg [(V.int .i64 (gi r620.1 0)),(V.inl Zg (gl r620.1 1)),(V.inl Zf ((gl r620.1 2)++[(V.agg [(V.inl Zc r626.1),(V.int .i64 (gi r620.1 0))])])),(V.int .i64 (gi r620.1 3)),(V.inl Za (gl r620.1 4)),(V.inl Ze (gl r620.1 5))]),(Zb r626.2))
  else none
 else bif (decide (r622.1=4)) then
  Option.bind (ZN (Zb r622.2) [(V.int .i64 (-1)),(V.int .i64 1),(V.int .i64 5)]) fun r627=>
  some ((V.agg [(V.int .i64 (gi r620.1 0)),(V.inl Zg (gl r620.1 1)),(V.inl Zf (gl r620.1 2)),(V.int .i64 r627.1),(V.inl Za (gl r620.1 4)),(V.inl Ze (gl r620.1 5))]),(Zb r627.2))
 else bif (decide (r622.1=5)) then
  Option.bind (Zh (Zb r622.2) 9) fun r628=>
  bif ((Zv (((gl r620.1 4).length)+1) 16)&&true) then
   some ((V.agg [(V.int .i64 (gi r620.1 0)),(V.inl Zg (gl r620.1 1)),(V.inl Zf (gl r620.1 2)),(V.int .i64 (gi r620.1 3)),(V.inl Za ((gl r620.1 4)++[(V.agg [(V.int .i64 r628.1),(V.bool false)])])),(V.inl Ze (gl r620.1 5))]),(Zb r628.2))
  else none
 else bif (decide (r622.1=6)) then
  Option.bind (Zh (Zb r622.2) 6) fun r629=>
  bif ((Zv (((gl r620.1 5).length)+1) 32)&&true) then
   some ((V.agg [(V.int .i64 (gi r620.1 0)),(V.inl Zg (gl r620.1 1)),(V.inl Zf (gl r620.1 2)),(V.int .i64 (gi r620.1 3)),(V.inl Za (gl r620.1 4)),(V.inl Ze ((gl r620.1 5)++[(V.agg [(V.int .i64 (IntKind.i64.wrap (r629.1-1))),(V.int .i64 1),(V.int .i64 0),(V.int .i64 1)])]))]),(Zb r629.2))
  else none
 else bif (decide ((0:Int)<(((gl r620.1 1).length:Nat):Int))) then
  Option.bind (Zh (Zb r622.2) 3) fun r630=>
  bif (Zn r630.1 3) then
   bif (Zn 0 ((gl r620.1 1).length)) then
    some ((V.agg [(V.int .i64 (gi r620.1 0)),(V.inl Zg ((gl r620.1 1).set 0 (V.agg [(V.inl Zc (gs (rd [(V.str []),(V.str [(V.int .u8 65)]),(V.str [(V.int .u8 122),(V.int .u8 122)])] (0+r630.1.toNat)) 0)),(V.inl Zc (gl (rd (gl r620.1 1) 0) 1)),(V.int .i64 (gi (rd (gl r620.1 1) 0) 2)),(V.int .i64 (gi (rd (gl r620.1 1) 0) 3))]))),(V.inl Zf (gl r620.1 2)),(V.int .i64 (gi r620.1 3)),(V.inl Za (gl r620.1 4)),(V.inl Ze (gl r620.1 5))]),(Zb r630.2))
   else none
  else none
 else some ((Zd r620.1),(Zb r622.2))
def ZbH:Nat→Int→Int→V→V→V→List V→List V→List V→List V→List V→List V→List V→List V→List V→List V→Option (V×V×V×List V×List V×List V×List V×List V×List V×List V×List V×List V×List V)
 | 0,_,_,_,_,_,_,_,_,_,_,_,_,_,_,_=>none
 | k_+1,n4,i5,b0,b1,b2,r3,r4,r5,r6,r7,r8,r9,r10,r11,r12=>
  bif (decide (i5<n4)) then
   Option.bind (Zcx (Zb b0)) fun r639=>
   Option.bind (ZdD (Zl r639.1)) fun r640=>
   bif r640 then
    bif ((Zv (r12.length+1) 80)&&true) then
     ZbH k_ n4 (IntKind.i64.wrap (i5+1)) (Zb r639.2) (V.agg [(V.int .i64 (gi b1 0)),(V.sl 3 Zg 0 none),(V.sl 4 Zf 0 none),(V.int .i64 (gi b1 3)),(V.sl 5 Za 0 none),(V.sl 6 Ze 0 none),(V.sl 7 Zi 0 none)]) (V.agg [(V.int .i64 (gi b2 0)),(V.sl 8 Zg 0 none),(V.sl 9 Zf 0 none),(V.int .i64 (gi b2 3)),(V.sl 10 Za 0 none),(V.sl 11 Ze 0 none),(V.sl 12 Zi 0 none)]) r3 r4 r5 r6 r7 r8 r9 r10 r11 (r12++[(Zl r639.1)])
    else none
   else Option.bind (ZY (Zb r639.2) 15) fun r641=>
   bif r641.1 then
    bif ((Zv (r12.length+1) 80)&&true) then
     ZbH k_ n4 (IntKind.i64.wrap (i5+1)) (Zb r641.2) (V.agg [(V.int .i64 (gi b1 0)),(V.sl 3 Zg 0 none),(V.sl 4 Zf 0 none),(V.int .i64 (gi b1 3)),(V.sl 5 Za 0 none),(V.sl 6 Ze 0 none),(V.sl 7 Zi 0 none)]) (V.agg [(V.int .i64 (gi b2 0)),(V.sl 8 Zg 0 none),(V.sl 9 Zf 0 none),(V.int .i64 (gi b2 3)),(V.sl 10 Za 0 none),(V.sl 11 Ze 0 none),(V.sl 12 Zi 0 none)]) r3 r4 r5 r6 r7 r8 r9 r10 r11 (r12++[(Zl r639.1)])
    else none
   else ZbH k_ n4 (IntKind.i64.wrap (i5+1)) (Zb r641.2) (V.agg [(V.int .i64 (gi b1 0)),(V.sl 3 Zg 0 none),(V.sl 4 Zf 0 none),(V.int .i64 (gi b1 3)),(V.sl 5 Za 0 none),(V.sl 6 Ze 0 none),(V.sl 7 Zi 0 none)]) (V.agg [(V.int .i64 (gi b2 0)),(V.sl 8 Zg 0 none),(V.sl 9 Zf 0 none),(V.int .i64 (gi b2 3)),(V.sl 10 Za 0 none),(V.sl 11 Ze 0 none),(V.sl 12 Zi 0 none)]) r3 r4 r5 r6 r7 r8 r9 r10 r11 r12
  else some ((Zb b0),(V.agg [(V.int .i64 (gi b1 0)),(V.sl 3 Zg 0 none),(V.sl 4 Zf 0 none),(V.int .i64 (gi b1 3)),(V.sl 5 Za 0 none),(V.sl 6 Ze 0 none),(V.sl 7 Zi 0 none)]),(V.agg [(V.int .i64 (gi b2 0)),(V.sl 8 Zg 0 none),(V.sl 9 Zf 0 none),(V.int .i64 (gi b2 3)),(V.sl 10 Za 0 none),(V.sl 11 Ze 0 none),(V.sl 12 Zi 0 none)]),r3,r4,r5,r6,r7,r8,r9,r10,r11,r12)
def Zft (c:V):Option (V×V):=
 Option.bind (Zfs (Zb c)) fun r637=>
 Option.bind (Zh (Zb r637.2) 6) fun r638=>
 Option.bind (ZbH ((r638.1-0).toNat+1) r638.1 0 (Zb r638.2) (V.agg [(V.int .i64 0),(V.sl 3 Zg 0 none),(V.sl 4 Zf 0 none),(V.int .i64 0),(V.sl 5 Za 0 none),(V.sl 6 Ze 0 none),(V.sl 7 Zi 0 none)]) (V.agg [(V.int .i64 (gi r637.1 0)),(V.sl 8 Zg 0 none),(V.sl 9 Zf 0 none),(V.int .i64 (gi r637.1 3)),(V.sl 10 Za 0 none),(V.sl 11 Ze 0 none),(V.sl 12 Zi 0 none)]) [] [] [] [] [] (gl r637.1 1) (gl r637.1 2) (gl r637.1 4) (gl r637.1 5) []) fun r642=>
 some ((V.agg [(V.int .i64 (gi r642.2.2.1 0)),(V.inl Zg r642.2.2.2.2.2.2.2.2.1),(V.inl Zf r642.2.2.2.2.2.2.2.2.2.1),(V.int .i64 (gi r642.2.2.1 3)),(V.inl Za r642.2.2.2.2.2.2.2.2.2.2.1),(V.inl Ze r642.2.2.2.2.2.2.2.2.2.2.2.1),(V.inl Zi r642.2.2.2.2.2.2.2.2.2.2.2.2)]),(Zb r642.1))
def ZdH (code:List V):Option (V×V):=
 Option.bind (ZdC code) fun r522=>
 Option.bind (Zft (Zb r522)) fun r643=>
 Option.bind (Zcx (Zb r643.2)) fun r644=>
 some ((Zp r643.1),(Zl r644.1))
def ZaW:Nat→List V→Int→Int→V→V→V→V→List V→List V→List V→List V→List V→List V→List V→List V→List V→List V→Option (V×V×V×V×List V×List V×List V×List V×List V×List V×List V×List V×List V×List V)
 | 0,_,_,_,_,_,_,_,_,_,_,_,_,_,_,_,_,_=>none
 | k_+1,v23,v24,v25,b0,b1,b2,b3,r4,r5,r6,r7,r8,r9,r10,r11,r12,r13=>
  bif (decide (v25<v24)) then
   bif (Zn v25 v23.length) then
    Option.bind (ZcI (Zl (rd v23 v25.toNat))) fun r652=>
    bif ((Zv (r13.length+1) 80)&&true) then
     ZaW k_ v23 v24 (IntKind.i64.wrap (v25+1)) (Zp b0) (Zl b1) (V.agg [(V.int .i64 (gi b2 0)),(V.sl 4 Zg 0 none),(V.sl 5 Zf 0 none),(V.int .i64 (gi b2 3)),(V.sl 6 Za 0 none),(V.sl 7 Ze 0 none),(V.sl 8 Zi 0 none)]) (V.agg [(V.int .i64 (gi b3 0)),(V.sl 9 Zg 0 none),(V.sl 10 Zf 0 none),(V.int .i64 (gi b3 3)),(V.sl 11 Za 0 none),(V.sl 12 Ze 0 none),(V.sl 13 Zi 0 none)]) r4 r5 r6 r7 r8 r9 r10 r11 r12 (r13++[(Zl r652)])
    else none
   else none
  else some ((Zp b0),(Zl b1),(V.agg [(V.int .i64 (gi b2 0)),(V.sl 4 Zg 0 none),(V.sl 5 Zf 0 none),(V.int .i64 (gi b2 3)),(V.sl 6 Za 0 none),(V.sl 7 Ze 0 none),(V.sl 8 Zi 0 none)]),(V.agg [(V.int .i64 (gi b3 0)),(V.sl 9 Zg 0 none),(V.sl 10 Zf 0 none),(V.int .i64 (gi b3 3)),(V.sl 11 Za 0 none),(V.sl 12 Ze 0 none),(V.sl 13 Zi 0 none)]),r4,r5,r6,r7,r8,r9,r10,r11,r12,r13)
def Zds (s:V) (c:V):Option (V×Bool):=
 Option.bind (Zb8 (Zp s)) fun r649=>
 bif (!r649) then
  some ((V.agg [(V.int .i64 0),(V.inl Zg []),(V.inl Zf []),(V.int .i64 0),(V.inl Za []),(V.inl Ze []),(V.inl Zi [])]),false)
 else Option.bind (Zbd (Zl c)) fun r650=>
 bif (!r650) then
  some ((V.agg [(V.int .i64 0),(V.inl Zg []),(V.inl Zf []),(V.int .i64 0),(V.inl Za []),(V.inl Ze []),(V.inl Zi [])]),false)
 else Option.bind (Za8 (Zd s)) fun r651=>
 Option.bind (ZaW (((((gl s 6).length:Nat):Int)-0).toNat+1) (gl s 6) (((gl s 6).length:Nat):Int) 0 (Zp s) (Zl c) (V.agg [(V.int .i64 0),(V.sl 4 Zg 0 none),(V.sl 5 Zf 0 none),(V.int .i64 0),(V.sl 6 Za 0 none),(V.sl 7 Ze 0 none),(V.sl 8 Zi 0 none)]) (V.agg [(V.int .i64 (gi r651 0)),(V.sl 9 Zg 0 none),(V.sl 10 Zf 0 none),(V.int .i64 (gi r651 3)),(V.sl 11 Za 0 none),(V.sl 12 Ze 0 none),(V.sl 13 Zi 0 none)]) [] [] [] [] [] (gl r651 1) (gl r651 2) (gl r651 4) (gl r651 5) []) fun r653=>
 bif (decide (((r653.2.2.2.2.2.2.2.2.2.2.2.2.2.length:Nat):Int)=(mnI 400 (IntKind.i64.wrap (1000000-(gi r653.1 0)))))) then
  some ((V.agg [(V.int .i64 (gi r653.2.2.2.1 0)),(V.inl Zg r653.2.2.2.2.2.2.2.2.2.1),(V.inl Zf r653.2.2.2.2.2.2.2.2.2.2.1),(V.int .i64 (gi r653.2.2.2.1 3)),(V.inl Za r653.2.2.2.2.2.2.2.2.2.2.2.1),(V.inl Ze r653.2.2.2.2.2.2.2.2.2.2.2.2.1),(V.inl Zi r653.2.2.2.2.2.2.2.2.2.2.2.2.2)]),false)
 else Option.bind (ZcI (Zl r653.2.1)) fun r654=>
 bif ((Zv (r653.2.2.2.2.2.2.2.2.2.2.2.2.2.length+1) 80)&&true) then
  some ((V.agg [(V.int .i64 (gi r653.2.2.2.1 0)),(V.inl Zg r653.2.2.2.2.2.2.2.2.2.1),(V.inl Zf r653.2.2.2.2.2.2.2.2.2.2.1),(V.int .i64 (gi r653.2.2.2.1 3)),(V.inl Za r653.2.2.2.2.2.2.2.2.2.2.2.1),(V.inl Ze r653.2.2.2.2.2.2.2.2.2.2.2.2.1),(V.inl Zi (r653.2.2.2.2.2.2.2.2.2.2.2.2.2++[(Zl r654)]))]),true)
 else none
def Zdt (code:List V):Option (Bool):=
 Option.bind (ZdZ code) fun r656=>
 Option.bind (Zeq r656.1 r656.2) fun r657=>
 bif (!r657.2) then
  bif (decide ((((gl r657.1 6).length:Nat):Int)=0)) then
   bif (decide ((gi r657.1 0)=0)) then
    some aliveB
   else some false
  else some false
 else Option.bind (Zd9 (Zp r657.1)) fun r658=>
 Option.bind (Zfq r656.1) fun r659=>
 bif (!r658.2) then
  some false
 else Option.bind (Zb8 (Zp r657.1)) fun r660=>
 bif (!r660) then
  some false
 else Option.bind (Zcz (Zd r658.1) (Zd r659.1)) fun r661=>
 bif (!r661) then
  some false
 else bif (!(decide (((r659.2.length:Nat):Int)=((r656.1.length:Nat):Int)))) then
  some false
 else bif (!(decide ((gi r657.1 0)=r656.2))) then
  some false
 else Option.bind (ZdH code) fun r662=>
 Option.bind (Zds (Zp r657.1) (Zl r662.2)) fun r663=>
 bif (!r663.2) then
  Option.bind (ZdD (Zl r662.2)) fun r664=>
  bif (!r664) then
   some true
  else some (decide ((400:Int)≤(((gl r657.1 6).length:Nat):Int)))
 else Option.bind (Zd9 (Zp r663.1)) fun r665=>
 Option.bind (Zf0 (Zd r658.1) (Zl r662.2)) fun r666=>
 Option.bind (Zcz (Zd r665.1) (Zd r666.1)) fun r667=>
 some r667
end Go.Eng.R
open Go Go.Eng Go.Proofs
namespace Go.Eng.R
theorem tab_ok:ZB Tryz.prog tab:=ZpH (by kernel_rfl)
theorem mixed:Tryz.prog.follows .mixedOrders=true:=by kernel_rfl
theorem base:Base Tryz.prog tab:=⟨tab_ok,mixed⟩
def l0 (x:V):List V:=[(V.inl Zc (gl x 0)),(V.int .i64 (gi x 1)),(V.int .i64 (gi x 2))]
def h1 (x:V):V:=V.agg [(V.int .i64 (gi x 0)),(V.rr Zc true (gl x 1)),(V.inl Zc (gl x 2)),(V.int .i64 (gi x 3))]
def h2 (x:V):V:=V.agg [(V.int .i64 (gi x 0)),(V.int .i64 (gi x 1)),(V.int .i64 (gi x 2)),(V.rr Zc true (gl x 3)),(V.inl Zc (gl x 4)),(V.int .i64 (gi x 5))]
def q3:List S1:=[.dead, .dead, .dead,(.rr Zc true),(.inl Zc)]
def q4:List S1:=[(.int .i64),(.inl Zc),(.inl Zc),(.int .i64)]
def q5:List S1:=[(.int .i64),(.int .i64),(.int .i64),(.inl Zc),(.inl Zc),(.int .i64)]
def h6 (x:V):V:=V.agg [(V.int .i64 (gi x 0)),(V.int .i64 (gi x 1)),(V.int .i64 (gi x 2)),(V.rr Zc true (gl x 3)),(V.rr Zc true (gl x 4)),(V.int .i64 (gi x 5))]
def q7:List S1:=[.dead, .dead, .dead,(.rr Zc true),(.rr Zc true)]
def q8:List S1:=[(.int .i64),(.int .i64),(.int .i64),(.int .i64)]
def q9:List S1:=[(.int .i64),(.inl Zg),(.inl Zf),(.int .i64),(.inl Za),(.inl Ze)]
def q10:List S1:=[(.inl Zc),(.inl Zc),(.int .i64),(.int .i64)]
def l11 (x:V):List V:=[(V.int .i64 (gi x 0)),(V.sl 1 Zg 0 none),(V.sl 2 Zf 0 none),(V.int .i64 (gi x 3)),(V.sl 3 Za 0 none),(V.sl 4 Ze 0 none)]
def q12:List S1:=[(.int .i64),(.sl 1 Zg),(.sl 2 Zf),(.int .i64),(.sl 3 Za),(.sl 4 Ze)]
def q13:List S1:=[(.int .i64),(.rr Zg true),(.rr Zf false),(.int .i64),(.rr Za true),(.rr Ze true)]
def l14 (x:V):List V:=[(V.int .i64 (gi x 0)),(V.rr Zg true (gl x 1)),(V.rr Zf false (gl x 2)),(V.int .i64 (gi x 3)),(V.rr Za true (gl x 4)),(V.rr Ze true (gl x 5))]
def q15:List S1:=[.dead,(.rr Zg true),(.rr Zf false), .dead,(.rr Za true),(.rr Ze true)]
def l16 (x:V):List V:=[(V.int .i64 (gi x 0)),(V.sl 3 Zg 0 none),(V.sl 4 Zf 0 none),(V.int .i64 (gi x 3)),(V.sl 5 Za 0 none),(V.sl 6 Ze 0 none)]
def l17 (x:V):List V:=[(V.int .i64 (gi x 0)),(V.sl 7 Zg 0 none),(V.sl 8 Zf 0 none),(V.int .i64 (gi x 3)),(V.sl 9 Za 0 none),(V.sl 10 Ze 0 none)]
def q18:List S1:=[(.int .i64),(.sl 3 Zg),(.sl 4 Zf),(.int .i64),(.sl 5 Za),(.sl 6 Ze)]
def q19:List S1:=[(.int .i64),(.sl 7 Zg),(.sl 8 Zf),(.int .i64),(.sl 9 Za),(.sl 10 Ze)]
def h20 (x:V):V:=V.agg [(V.int .i64 (gi x 0)),(V.rr Zg true (gl x 1)),(V.rr Zf false (gl x 2)),(V.int .i64 (gi x 3)),(V.rr Za true (gl x 4)),(V.rr Ze true (gl x 5))]
def l21 (x:V):List V:=[(V.int .i64 (gi x 0)),(V.inl Zg (gl x 1)),(V.inl Zf (gl x 2)),(V.int .i64 (gi x 3)),(V.inl Za (gl x 4)),(V.inl Ze (gl x 5))]
def l22 (x:V):List V:=[(V.int .i64 (gi x 0)),(V.sl 2 Zg 0 none),(V.sl 3 Zf 0 none),(V.int .i64 (gi x 3)),(V.sl 4 Za 0 none),(V.sl 5 Ze 0 none)]
def l23 (x:V):List V:=[(V.int .i64 (gi x 0)),(V.sl 6 Zg 0 none),(V.sl 7 Zf 0 none),(V.int .i64 (gi x 3)),(V.sl 8 Za 0 none),(V.sl 9 Ze 0 none)]
def q24:List S1:=[(.int .i64),(.sl 2 Zg),(.sl 3 Zf),(.int .i64),(.sl 4 Za),(.sl 5 Ze)]
def q25:List S1:=[(.int .i64),(.sl 6 Zg),(.sl 7 Zf),(.int .i64),(.sl 8 Za),(.sl 9 Ze)]
def q26:List S1:=[(.int .i64),(.sl 3 Zg),(.sl 2 Zf),(.int .i64),(.sl 4 Za),(.sl 5 Ze)]
def h27 (x:V):V:=V.agg [(V.int .i64 (gi x 0)),(V.rr Zg false (gl x 1)),(V.rr Zf false (gl x 2)),(V.int .i64 (gi x 3)),(V.rr Za true (gl x 4)),(V.rr Ze true (gl x 5))]
def q28:List S1:=[.dead,(.rr Zg false),(.rr Zf false), .dead,(.rr Za true),(.rr Ze true)]
def q29:List S1:=[(.int .i64),(.rr Zg false),(.rr Zf false),(.int .i64),(.rr Za true),(.rr Ze true)]
def l30 (x:V):List V:=[(V.int .i64 (gi x 0)),(V.rr Zg false (gl x 1)),(V.rr Zf false (gl x 2)),(V.int .i64 (gi x 3)),(V.rr Za true (gl x 4)),(V.rr Ze true (gl x 5))]
def q31:List S1:=[(.int .i64),(.sl 4 Zg),(.sl 5 Zf),(.int .i64),(.sl 6 Za),(.sl 7 Ze)]
def l33 (x:V):List V:=[(V.int .i64 (gi x 0)),(V.sl 1 Zg 0 none),(V.sl 2 Zf 0 none),(V.int .i64 (gi x 3)),(V.sl 3 Za 0 none),(V.sl 4 Ze 0 none),(V.sl 5 Zi 0 none)]
def q34:List S1:=[(.int .i64),(.sl 1 Zg),(.sl 2 Zf),(.int .i64),(.sl 3 Za),(.sl 4 Ze),(.sl 5 Zi)]
def q35:List S1:=[(.int .i64),(.rr Zg true),(.rr Zf false),(.int .i64),(.rr Za true),(.rr Ze true),(.rr Zi true)]
def l36 (x:V):List V:=[(V.int .i64 (gi x 0)),(V.rr Zg true (gl x 1)),(V.rr Zf false (gl x 2)),(V.int .i64 (gi x 3)),(V.rr Za true (gl x 4)),(V.rr Ze true (gl x 5)),(V.rr Zi true (gl x 6))]
def q37:List S1:=[.dead,(.rr Zg true),(.rr Zf false), .dead,(.rr Za true),(.rr Ze true),(.rr Zi true)]
def h38 (x:V):V:=V.agg [(V.int .i64 (gi x 0)),(V.rr Zc true (gl x 1)),(V.rr Zc true (gl x 2)),(V.int .i64 (gi x 3))]
def q39:List S1:=[.dead,(.rr Zc true),(.rr Zc true)]
def l40 (x:V):List V:=[(V.int .i64 (gi x 0)),(V.nil Zg),(V.nil Zf),(V.int .i64 (gi x 3)),(V.nil Za),(V.nil Ze),(V.nil Zi)]
def l41 (x:V):List V:=[(V.int .i64 (gi x 0)),(V.sl 2 Zg 0 none),(V.sl 3 Zf 0 none),(V.int .i64 (gi x 3)),(V.sl 4 Za 0 none),(V.sl 5 Ze 0 none),(V.sl 6 Zi 0 none)]
def l42 (x:V):List V:=[(V.int .i64 (gi x 0)),(V.sl 7 Zg 0 none),(V.sl 8 Zf 0 none),(V.int .i64 (gi x 3)),(V.sl 9 Za 0 none),(V.sl 10 Ze 0 none),(V.sl 11 Zi 0 none)]
def q43:List S1:=[(.int .i64),(.sl 2 Zg),(.sl 3 Zf),(.int .i64),(.sl 4 Za),(.sl 5 Ze),(.sl 6 Zi)]
def q44:List S1:=[(.int .i64),(.sl 7 Zg),(.sl 8 Zf),(.int .i64),(.sl 9 Za),(.sl 10 Ze),(.sl 11 Zi)]
def h45 (x:V):V:=V.agg [(V.int .i64 (gi x 0)),(V.rr Zg true (gl x 1)),(V.rr Zf false (gl x 2)),(V.int .i64 (gi x 3)),(V.rr Za true (gl x 4)),(V.rr Ze true (gl x 5)),(V.rr Zi true (gl x 6))]
def q46:List S1:=[(.int .i64),(.inl Zg),(.inl Zf),(.int .i64),(.inl Za),(.inl Ze),(.inl Zi)]
def l47 (x:V):List V:=[(V.int .i64 (gi x 0)),(V.sl 4 Zg 0 none),(V.sl 5 Zf 0 none),(V.int .i64 (gi x 3)),(V.sl 6 Za 0 none),(V.sl 7 Ze 0 none)]
def l48 (x:V):List V:=[(V.int .i64 (gi x 0)),(V.int .i64 (gi x 1)),(V.int .i64 (gi x 2)),(V.inl Zc (gl x 3)),(V.inl Zc (gl x 4)),(V.int .i64 (gi x 5))]
def l49 (x:V):List V:=[(V.int .i64 (gi x 0)),(V.int .i64 (gi x 1))]
def l50 (x:V):List V:=[(V.int .i64 (gi x 0)),(V.sl 3 Zg 0 none),(V.sl 4 Zf 0 none),(V.int .i64 (gi x 3)),(V.sl 5 Za 0 none),(V.sl 6 Ze 0 none),(V.sl 7 Zi 0 none)]
def l51 (x:V):List V:=[(V.int .i64 (gi x 0)),(V.sl 8 Zg 0 none),(V.sl 9 Zf 0 none),(V.int .i64 (gi x 3)),(V.sl 10 Za 0 none),(V.sl 11 Ze 0 none),(V.sl 12 Zi 0 none)]
def q52:List S1:=[(.int .i64),(.sl 3 Zg),(.sl 4 Zf),(.int .i64),(.sl 5 Za),(.sl 6 Ze),(.sl 7 Zi)]
def q53:List S1:=[(.int .i64),(.sl 8 Zg),(.sl 9 Zf),(.int .i64),(.sl 10 Za),(.sl 11 Ze),(.sl 12 Zi)]
def h54 (x:V):V:=V.agg [(V.int .i64 (gi x 0)),(V.rr Zg false (gl x 1)),(V.rr Zf false (gl x 2)),(V.int .i64 (gi x 3)),(V.rr Za true (gl x 4)),(V.rr Ze true (gl x 5)),(V.rr Zi false (gl x 6))]
def q55:List S1:=[.dead,(.rr Zg false),(.rr Zf false), .dead,(.rr Za true),(.rr Ze true),(.rr Zi false)]
def l56 (x:V):List V:=[(V.int .i64 (gi x 0)),(V.inl Zg (gl x 1)),(V.inl Zf (gl x 2)),(V.int .i64 (gi x 3)),(V.inl Za (gl x 4)),(V.inl Ze (gl x 5)),(V.inl Zi (gl x 6))]
def l57 (x:V):List V:=[(V.int .i64 (gi x 0)),(V.sl 4 Zg 0 none),(V.sl 5 Zf 0 none),(V.int .i64 (gi x 3)),(V.sl 6 Za 0 none),(V.sl 7 Ze 0 none),(V.sl 8 Zi 0 none)]
def l58 (x:V):List V:=[(V.int .i64 (gi x 0)),(V.sl 9 Zg 0 none),(V.sl 10 Zf 0 none),(V.int .i64 (gi x 3)),(V.sl 11 Za 0 none),(V.sl 12 Ze 0 none),(V.sl 13 Zi 0 none)]
def q59:List S1:=[(.int .i64),(.sl 4 Zg),(.sl 5 Zf),(.int .i64),(.sl 6 Za),(.sl 7 Ze),(.sl 8 Zi)]
def q60:List S1:=[(.int .i64),(.sl 9 Zg),(.sl 10 Zf),(.int .i64),(.sl 11 Za),(.sl 12 Ze),(.sl 13 Zi)]
def h61 (x:V):V:=V.agg [(V.int .i64 (gi x 0)),(V.rr Zg false (gl x 1)),(V.rr Zf false (gl x 2)),(V.int .i64 (gi x 3)),(V.rr Za true (gl x 4)),(V.rr Ze true (gl x 5)),(V.rr Zi true (gl x 6))]
def q62:List S1:=[.dead,(.rr Zg false),(.rr Zf false), .dead,(.rr Za true),(.rr Ze true),(.rr Zi true)]
end Go.Eng.R
