/- An own evaluator of the program's form, proved sound, and what it says of this law's functions: part 2. -/
import Derived.Test.YtpcbeplajmkgpaaGreatE1
import Derived.ChangeSame
import Derived.ChangeStays
import Derived.Deep.RegionLaw
import Derived.Handed
import Derived.IntWalk
import Derived.Laws.Externs
import Derived.Laws.IdiomCopy
import Derived.Laws.NewBlocks
import Derived.Lib.AppendZeros
import Derived.Lib.AppendZerosOnto
import Derived.Lib.Bytealg
import Derived.Lib.BytesEntry
import Derived.Lib.Overlaps
import Derived.ReadAgain
set_option linter.unusedVariables false
namespace Go.Eng
section
variable {P:Program}
theorem LentL.mono {tab:Tab} {M M':Mem} {ps:List (V×Value)} {is:List Nat} (h:LentL tab M ps is) (hρ:∀id rb,M.ρ id=some rb→M'.ρ id=some rb):LentL tab M' ps is:=by
 induction h with
 | nil=>exact .nil
 | @cons p id ps is h1 _ ih=>
  refine .cons ?_ ih
  unfold Zgh at h1 ⊢
  split at h1
  ·obtain⟨g,q1,q2⟩:=h1;exact⟨g,hρ _ _ q1,q2⟩
  ·obtain⟨ty,q1,q2⟩:=h1;exact⟨ty,q1,hρ _ _ q2⟩
  ·obtain⟨ty,q1,q2⟩:=h1;exact⟨ty,q1,hρ _ _ q2⟩
  ·exact h1.elim
theorem ZiV {tab:Tab} {E:Entry} {M:Mem} (hM:MemOk tab E M) {id:Nat} {b b':Blk} {n':List Nat} (hb:M.hp id=some (some b)) (hn:n'.Sublist (M.nest id))
  (h:BlkIs tab M.w (okS E M) M.ρ b' (M.ρ id) (M.top id) n'):
  MemOk tab E { M with hp:=fun i=>if i=id then some (some b') else M.hp i,nest:=fun i=>if i=id then n' else M.nest i }∧
  MemLe E M { M with hp:=fun i=>if i=id then some (some b') else M.hp i,nest:=fun i=>if i=id then n' else M.nest i }:=by
 have hnd:(M.top id++n').Nodup:=((List.Sublist.refl _).append hn).nodup (hM.nodup id)
 refine hM.move (fun i=>i=id) (fun i hi=>?_) (fun _ _ h=>h) (fun _ _=>rfl) (fun _ _ _ _=>rfl) ⟨rfl,rfl,rfl,Nat.le_refl _,fun _ _ _=>rfl⟩ (fun _ _ _=>rfl) (fun i hi g hg=>?_) (fun i hi g hg=>?_) (fun i hi=>?_)
  (fun i i' hi hi' hne=>absurd (hi.trans hi'.symm) hne) (fun i hi g hg=>?_) (fun i hi=>?_) (fun hle i hi bb hbb=>?_)
 ·simp[hi]
 ·subst hi;exact .inl ⟨_,rfl,hg⟩
 ·subst hi;simp only[if_true] at hg;exact .inl ⟨_,rfl,List.mem_append_right _ (hn.mem hg)⟩
 ·subst hi;simpa using hnd
 ·subst hi
  simp only[if_true] at hg
  exact(hM.mine i g ((List.mem_append.1 hg).elim (List.mem_append_left _) fun h=>List.mem_append_right _ (hn.mem h))).2
 ·subst hi;simp
 ·subst hi
  simp only[if_true,Option.some.injEq] at hbb ⊢
  subst hbb
  exact h.keep (fun _ _ h=>h) hle.ok hle.same fun _ _=>rfl
theorem Zdk {tab:Tab} {E:Entry} {N:Nat} {ps:List (V×Value)} {M:Mem} {s:St} {a:Act} (h:Rel tab E N ps M s a) (i:Nat):M.hp i=look s.hp i:=by
 rw[h.rel.hp];rfl
theorem Zir {tab:Tab} {E:Entry} {N:Nat} {ps:List (V×Value)} {M:Mem} {s:St} {a:Act} (h:Rel tab E N ps M s a) (id:Nat):∃M',M'.w=M.w∧Rel tab E N ps M' (Zg6 s id) a:=by
 unfold Zg6
 split
 ·rename_i T own els hl
  have hb:M.hp id=some (some (.row T own els)):=(Zdk h id).trans hl
  obtain⟨ty,v,xs,k1,k2,k3,k4,k5,k6,k7⟩:=h.rel.mem.row hb
  obtain⟨m1,m2⟩:=ZiV (b':=.row T false els) (n':=[]) h.rel.mem hb (List.nil_sublist _) ⟨ty,v,k1,k2,⟨ty,xs,k1,k3,k4, .inr ⟨rfl,rfl,k7⟩⟩,k5⟩
  refine⟨{ M with hp:=fun i=>if i=id then some (some (.row T false els)) else M.hp i,nest:=fun i=>if i=id then[] else M.nest i },rfl,⟨⟨m1, .refl _ _,?_,fun u=>m2.rs (h.rel.slots u)⟩,h.lent.mono m2.ρ,fun i hi=>?_,h.size,h.defers⟩⟩
  ·funext i
   show(if i=id then some (some (Blk.row T false els)) else M.hp i)=look ((id,some (Blk.row T false els)) :: s.hp) i
   rw[ZF,Zdk h]
  ·show look ((id,some (Blk.row T false els)) :: s.hp) i=none
   rw[ZF,if_neg]
   ·exact h.fresh i hi
   ·intro e
    have e:i=id:=e
    have:=h.fresh i hi
    rw[e] at this
    have this:look s.hp id=none:=this
    rw[hl] at this;cases this
 ·exact⟨M,rfl,h⟩
theorem Zgl {tab:Tab} {E:Entry} {N:Nat} {ps:List (V×Value)} {M:Mem} {s:St} {a:Act} (h:Rel tab E N ps M s a) (own:Bool) {T:TypeId} {ty:Ty} (hty:tab T=some ty) (a0:Option Addr):
  ∃M',M'.w=M.w∧MemOk tab E M'∧MemLe E M M'∧M'.hp=look ((s.nid,some (Blk.row T own [])) :: s.hp)∧M'.Rs tab E (.sl s.nid T 0 none) (.slice a0 0 0):=by
 have hn:M.hp s.nid=none:=by rw[h.rel.hp];exact h.fresh _ (Nat.le_refl _)
 obtain⟨f1,f2,f3⟩:=h.rel.mem.fresh _ hn
 have main:=Zg7 h.rel.mem M.w [] s.nid (.row T ty.kinds.length 0 (.slice a0 0 0)) (.row T own []) [] [] (.inl f1) rfl rfl rfl (Nat.le_refl _) (fun _ _ _=>rfl) (by simp) (by simp) (by simp) (by simp) fun _=>
  ⟨ty, .slice a0 0 0,hty,rfl,⟨ty,[],hty,⟨by simp, .inl ⟨a0,rfl,rfl⟩⟩,by simp,by
   cases own
   ·exact .inr ⟨rfl,rfl,by simp⟩
   ·exact .inl ⟨rfl,fun _ _=>[],by simp[ZD],by simp⟩⟩,by cases a0 <;> rfl⟩
 refine⟨M.put M.w [] s.nid (.row T ty.kinds.length 0 (.slice a0 0 0)) (.row T own []) [] [],rfl,main.1,main.2,?_,?_⟩
 ·funext i
  rw[ZF]
  simp only[Mem.put,List.not_mem_nil,if_false]
  split
  ·rfl
  ·rw[h.rel.hp];rfl
 ·exact .sl s.nid T 0 none ty.kinds.length 0 a0 a0 0 0 (by simp[Mem.put]) (by omega) (by simp) (by omega) (by omega) (fun _=>rfl)
theorem ZlF {α:Type} {l:List α} {n i:Nat} {d:α} (h:i<n):(l.take n).getD i d=l.getD i d:=by
 simp[List.getD,h]
theorem ZnX {tab:Tab} {E:Entry} {N:Nat} {ps:List (V×Value)} {M:Mem} {s:St} {a:Act} (h:Rel tab E N ps M s a) {id T n:Nat} {T':TypeId} {o own:Bool} {els:List V} (hl:look s.hp id=some (some (.row T' o els))) {v:Value} (hx:M.Rs tab E (.sl id T 0 (some n)) v):
  ∃M',M'.w=M.w∧MemOk tab E M'∧MemLe E M M'∧M'.hp=look ((s.nid,some (Blk.row T' (o&&own) (els.take n))) :: (id,none) :: s.hp)∧M'.Rs tab E (.sl s.nid T' 0 none) v:=by
 have hM:=h.rel.mem
 have hb:M.hp id=some (some (.row T' o els)):=(Zdk h id).trans hl
 have hn:M.hp s.nid=none:=by rw[h.rel.hp];exact h.fresh _ (Nat.le_refl _)
 have hne:id≠s.nid:=fun e=>by rw[e,hn] at hb;cases hb
 obtain⟨f1,f2,f3⟩:=hM.fresh _ hn
 obtain⟨ty,a1,a',cap,m,q1,q2,q3,q4,q5,q6,q7,rfl,q8,q9⟩:=hM.sl hx hb
 obtain rfl:=q7 rfl
 simp only[Option.getD_some] at q4
 subst q4
 obtain⟨ty',rv,xs,k1,k2,k3,k4,k5,k6,k7⟩:=hM.row hb
 obtain rfl:ty=ty':=Option.some.inj (q1.symm.trans k1)
 have hrv:=k2.symm.trans q2
 simp only[Option.some.injEq,RB.row.injEq,true_and] at hrv
 subst hrv
 have hm:m≤els.length:=by omega
 have hlen:(els.take m).length=m:=by simp;omega
 have hmul:m*ty.kinds.length≤els.length*ty.kinds.length:=Nat.mul_le_mul_right _ hm
 have htop:Zr (.slice a' m (cap-0))=Zr (.slice a' els.length cap):=by
  rw[Nat.sub_zero];cases a' <;> cases cap <;> rfl
 have hrow:RowIs M.w T' ty.kinds.length m (.slice a' m (cap-0)) (xs.take (m*ty.kinds.length)):=by
  rw[Nat.sub_zero]
  refine⟨by rw[List.length_take,k3.1];omega,?_⟩
  rcases k3.2 with⟨b,e,h0⟩ | ⟨g,cap',cur,e,hc,hg,hN,hcm,hcs,htk⟩
  ·simp only[Value.slice.injEq] at e
   obtain⟨rfl,e1,rfl⟩:=e
   obtain rfl:m=0:=by omega
   exact .inl ⟨_,rfl,rfl⟩
  ·cases e
   refine .inr ⟨g,cap,cur,rfl,hc,hg,by omega,hcm,hcs,?_⟩
   rw[←htk,List.take_take,Nat.min_eq_left hmul]
 have hel:∀i,i<m→(els.take m).getD i .dead=els.getD i .dead:=fun i hi=>ZlF hi
 have hxs:∀i j,i<m→j<ty.kinds.length→(xs.take (m*ty.kinds.length)).getD (i*ty.kinds.length+j) undef=xs.getD (i*ty.kinds.length+j) undef:=fun i j hi hj=>ZlF (ZbK hi hj)
 have key:∃n':List Nat,n'.Sublist (M.nest id)∧∀ok':Nat→Prop,(∀g,okS E M g→ok' g)→RowT tab M.w ok' T' (o&&own) (els.take m) (.slice a' m (cap-0)) n':=by
  have hsh:∀i,i<(els.take m).length→ZbS ty ((els.take m).getD i .dead):=fun i hi=>by
   rw[hlen] at hi;rw[hel i hi];exact k4 i (by omega)
  have hpart:∃n':List Nat,n'.Sublist (M.nest id)∧∀ok':Nat→Prop,(∀g,okS E M g→ok' g)→RowT tab M.w ok' T' false (els.take m) (.slice a' m (cap-0)) n':=
   ⟨[],List.nil_sublist _,fun ok' hok=>⟨ty,_,k1,by rw[hlen];exact hrow,hsh, .inr ⟨rfl,rfl,fun i j hi hj=>by
    rw[hlen] at hi;rw[hel i hi,hxs i j hi hj];exact(k7 i j (by omega) hj).keep hok fun _ _=>rfl⟩⟩⟩
  cases hoo:(o&&own) with
  | false=>exact hpart
  | true=>
   obtain⟨ty2,xs2,j1,j2,j3,j4⟩:=k6
   obtain rfl:ty=ty2:=Option.some.inj (k1.symm.trans j1)
   have hxx:xs2=xs:=by
    rcases k3.2 with⟨b,e,h0⟩ | ⟨g,cap',cur,e,hc,hg,hN,hcm,hcs,htk⟩
    ·have e1:=k3.1;have e2:=j2.1
     rw[h0,Nat.zero_mul] at e1 e2
     rw[List.eq_nil_of_length_eq_zero e1,List.eq_nil_of_length_eq_zero e2]
    ·rcases j2.2 with⟨b,e',h0⟩ | ⟨g',cap'',cur',e',hc',hg',hN',hcm',hcs',htk'⟩
     ·simp only[Value.slice.injEq] at e e'
      have h1:=e.2.2;have h2:=e'.2.2;omega
     ·rw[e'] at e;cases e;obtain⟨fr,hg,-⟩:=hg;obtain⟨fr',hg',-⟩:=hg';rw[hg] at hg';cases hg';rw[←htk,←htk']
   subst hxx
   rcases j4 with⟨ho,F,hF,he⟩ | ⟨ho,-,-⟩
   ·refine⟨ZD m ty.kinds.length F,?_,fun ok' hok=>⟨ty,_,k1,by rw[hlen];exact hrow,hsh, .inl ⟨rfl,F,by rw[hlen],fun i j hi hj=>?_⟩⟩⟩
    ·rw[hF]
     unfold ZD
     obtain⟨d,hd⟩:∃d,els.length=m+d:=⟨els.length-m,by omega⟩
     rw[hd,List.range_add,List.flatMap_append]
     exact List.sublist_append_left _ _
    ·rw[hlen] at hi;rw[hel i hi,hxs i j hi hj];exact he i j (by omega) hj
   ·simp[ho] at hoo
 obtain⟨n',hn',hrt⟩:=key
 have hnd:(Zr (.slice a' m (cap-0))++n').Nodup:=by
  rw[htop,←k5]
  exact((List.Sublist.refl _).append hn').nodup (hM.nodup id)
 have main:=Zg7 hM M.w [id] s.nid (.row T' ty.kinds.length m (.slice a' m (cap-0))) (.row T' (o&&own) (els.take m)) (Zr (.slice a' m (cap-0))) n' (.inl f1) rfl rfl rfl (Nat.le_refl _) (fun _ _ _=>rfl)
  (fun g hg=>.inl ⟨id, .inr (by simp),by rw[k5,←htop];exact hg⟩) (fun g hg=>.inl ⟨id, .inr (by simp),List.mem_append_right _ (hn'.mem hg)⟩) hnd
  (fun g hg=>(hM.mine id g (by
   rcases List.mem_append.1 hg with hg | hg
   ·rw[k5,←htop];exact List.mem_append_left _ hg
   ·exact List.mem_append_right _ (hn'.mem hg))).2)
  fun hle=>⟨ty,_,k1,by rw[hlen],hrt _ hle.ok,rfl⟩
 refine⟨M.put M.w [id] s.nid (.row T' ty.kinds.length m (.slice a' m (cap-0))) (.row T' (o&&own) (els.take m)) (Zr (.slice a' m (cap-0))) n',rfl,main.1,main.2,?_,?_⟩
 ·funext i
  rw[ZF,ZF]
  simp only[Mem.put,List.mem_singleton]
  split
  ·rfl
  ·split
   ·rfl
   ·exact Zdk h i
 ·have:=Rs.sl (tab:=tab) (w:=M.w) (ok:=okS E (M.put M.w [id] s.nid (.row T' ty.kinds.length m (.slice a' m (cap-0))) (.row T' (o&&own) (els.take m)) (Zr (.slice a' m (cap-0))) n')) (ρ:=(M.put M.w [id] s.nid (.row T' ty.kinds.length m (.slice a' m (cap-0))) (.row T' (o&&own) (els.take m)) (Zr (.slice a' m (cap-0))) n').ρ)
   s.nid T' 0 none ty.kinds.length m a' a' (cap-0) m (by simp[Mem.put]) (by omega) (by simp) (by omega) (fun _=>by cases a' <;> simp[Addr.add]) (fun _=>rfl)
  rw[Nat.sub_zero] at this ⊢
  exact this
theorem ZeL {α:Type} {cs:List α} {j k:Nat} {x d:α} (hk:k<cs.length):(cs.set j x).getD k d=if j=k then x else cs.getD k d:=by
 simp only[List.getD,List.getElem?_set]
 by_cases e:j=k
 ·subst e;simp[hk]
 ·simp[e]
theorem nil_at {tab:Tab} {E:Entry} {M:Mem} {cs:List V} {j:Nat} {T:TypeId} (h:cs.getD j .dead = .nil T):j<cs.length:=by
 rcases Nat.lt_or_ge j cs.length with h1 | h1
 ·exact h1
 ·simp[List.getD,List.getElem?_eq_none h1] at h
theorem sl_at {tab:Tab} {E:Entry} {M:Mem} {cs:List V} {j:Nat} {id T off:Nat} {len:Option Nat} (h:cs.getD j .dead = .sl id T off len):j<cs.length:=by
 rcases Nat.lt_or_ge j cs.length with h1 | h1
 ·exact h1
 ·simp[List.getD,List.getElem?_eq_none h1] at h
theorem Zjs {tab:Tab} (hT:ZB P tab) {E:Entry} {N:Nat} {ps:List (V×Value)} {M:Mem} {s:St} {a:Act} (h:Rel tab E N ps M s a) (id:Nat):∃M',M'.w=M.w∧Rel tab E N ps M' (shutS tab s id) a:=by
 have hsame:∃M',M'.w=M.w∧Rel tab E N ps M' s a:=⟨M,rfl,h⟩
 unfold shutS
 split
 ·rename_i T els idx off j hl
  split
  ·rename_i ty ht
   split
   ·rename_i T' l hlj
    cases hb:Nat.beq j id with
    | true=>exact hsame
    | false=>
     have hne:j≠id:=fun e=>by rw[e,Nat.beq_refl] at hb;cases hb
     obtain⟨M',e1,e2,m1,m2,m3⟩:=Zmy hT h.rel.mem ht ((Zdk h id).trans hl) ((Zdk h j).trans hlj) hne
     refine⟨M',e1,⟨m1, .refl _ _,?_,fun u=>m2.rs (h.rel.slots u)⟩,h.lent.mono m2.ρ,fun i hi=>?_,h.size,h.defers⟩
     ·funext i
      show M'.hp i=look ((id,some (Blk.drow T (Zed ty.kinds ty.agg els idx off (.inl T' l)))) :: (j,none) :: s.hp) i
      rw[m3,Zfz,ZF,ZF,Zdk h i]
     ·have hi:s.nid≤i:=hi
      have hnone:look s.hp i=none:=h.fresh i hi
      show look ((id,some (Blk.drow T (Zed ty.kinds ty.agg els idx off (.inl T' l)))) :: (j,none) :: s.hp) i=none
      rw[ZF,if_neg (fun e=>by have e:i=id:=e;rw[e,hl] at hnone;cases hnone),ZF,if_neg (fun e=>by have e:i=j:=e;rw[e,hlj] at hnone;cases hnone)]
      exact hnone
   ·exact hsame
  ·exact hsame
 ·exact hsame
theorem Zh1 {tab:Tab} (hT:ZB P tab) {E:Entry} {N:Nat} {ps:List (V×Value)} {a:Act}:∀(ids:List Nat) {M:Mem} {s:St},Rel tab E N ps M s a→∃M',M'.w=M.w∧Rel tab E N ps M' (Zef tab s ids) a
 | [],M,s,h=>⟨M,rfl,h⟩
 | id :: ids,M,s,h=>by
  obtain⟨M1,h1,h2⟩:=Zjs hT h id
  obtain⟨M2,h3,h4⟩:=Zh1 hT ids h2
  exact⟨M2,h3.trans h1,h4⟩
theorem Zop {tab:Tab} {E:Entry} {M:Mem} (hM:MemOk tab E M) (id:Nat):
  MemOk tab E { M with top:=fun i=>if i=id then[] else M.top i,nest:=fun i=>if i=id then[] else M.nest i,hp:=fun i=>if i=id then some none else M.hp i }∧
  MemLe E M { M with top:=fun i=>if i=id then[] else M.top i,nest:=fun i=>if i=id then[] else M.nest i,hp:=fun i=>if i=id then some none else M.hp i }:=by
 exact hM.move (M':={ M with top:=fun i=>if i=id then[] else M.top i,nest:=fun i=>if i=id then[] else M.nest i,hp:=fun i=>if i=id then some none else M.hp i })
  (fun i=>i=id) (fun i hi=>by simp[hi]) (fun _ _ h=>h) (fun g' hg'=>rfl) (fun i hi g' hg'=>rfl)
  ⟨rfl,rfl,rfl,Nat.le_refl _,fun _ _ _=>rfl⟩
  (fun g' hg' hF=>rfl)
  (fun i hi g' hg'=>by subst hi;simp at hg') (fun i hi g' hg'=>by subst hi;simp at hg') (fun i hi=>by subst hi;simp) (fun i i' hi hi' hne=>absurd (hi.trans hi'.symm) hne) (fun i hi g' hg'=>by subst hi;simp at hg')
  (fun i hi=>by subst hi;simp) (fun hle i hi b hbb=>by subst hi;simp at hbb)
theorem Zis {tab:Tab} {E:Entry} {N:Nat} {ps:List (V×Value)} {M:Mem} {s:St} {a:Act} (h:Rel tab E N ps M s a) {t id2:Nat} {T':TypeId} {o:Bool} {els:List V} (hl:look s.hp id2=some (some (.row T' o els))) (v:V)
  (hv:∀M1:Mem,M1.w=M.w→MemLe E M M1→(∀(T off:Nat) (len:Option Nat) (u:Value),M.Rs tab E (.sl id2 T off len) u→M1.Rs tab E (.inl T (cut els off len)) u)→M1.Rs tab E v (a.eval (.tmp t))):
  ∃M',M'.w=M.w∧Rel tab E N ps M' { sl:=(t,v) :: s.sl,hp:=(id2,none) :: s.hp,nid:=s.nid,lent:=s.lent } a:=by
 have hM:=h.rel.mem
 have hb2:M.hp id2=some (some (.row T' o els)):=(Zdk h id2).trans hl
 obtain⟨m1,m2⟩:=Zop hM id2
 generalize hM1:({ M with top:=fun i=>if i=id2 then[] else M.top i,nest:=fun i=>if i=id2 then[] else M.nest i,hp:=fun i=>if i=id2 then some none else M.hp i }:Mem)=M1 at m1 m2
 have e1:M1.w=M.w:=by rw[←hM1]
 have ehp:M1.hp=fun i=>if i=id2 then some none else M.hp i:=by rw[←hM1]
 have etop:M1.top=fun i=>if i=id2 then[] else M.top i:=by rw[←hM1]
 refine⟨M1,e1,⟨m1, .refl _ _,?_,fun u=>?_⟩,h.lent.mono m2.ρ,fun i hi=>?_,h.size,h.defers⟩
 ·funext i
  show M1.hp i=look ((id2,none) :: s.hp) i
  rw[ZF,ehp]
  show(if i=id2 then some none else M.hp i)=_
  rw[Zdk h i]
 ·have hsl:(St.F { sl:=(t,v) :: s.sl,hp:=(id2,none) :: s.hp,nid:=s.nid,lent:=s.lent }).sl u=if u=t then v else s.slot u:=ZeK s t v u
  rw[hsl]
  split
  ·rename_i e;subst e
   refine hv M1 e1 m2 fun T off len u hx=>?_
   refine .tree ?_
   rw[e1]
   refine Zf7 hM hx hb2 m2.ok fun g' hg'=>?_
   have hmi:=hM.mine id2 g' (List.mem_append_left _ hg')
   refine⟨.inr hmi.1,by rw[e1];exact hmi.2,fun i hi=>?_⟩
   rw[etop] at hi
   simp only at hi
   split at hi
   ·simp at hi
   ·rename_i hni;exact hM.apart i id2 hni g' (List.mem_append_left _ hi) (List.mem_append_left _ hg')
  ·exact m2.rs (h.rel.slots u)
 ·show look ((id2,none) :: s.hp) i=none
  have h0:look s.hp i=none:=h.fresh i hi
  rw[ZF,if_neg]
  ·exact h0
  ·intro e
   have e:i=id2:=e
   rw[e,hl] at h0;cases h0
theorem Zl5 {tab:Tab} {E:Entry} {N:Nat} {ps:List (V×Value)} {M:Mem} {s:St} {a:Act} (h:Rel tab E N ps M s a) (t j:Nat):∃M',M'.w=M.w∧Rel tab E N ps M' (Zlb s t j) a:=by
 have hsame:∃M',M'.w=M.w∧Rel tab E N ps M' s a:=⟨M,rfl,h⟩
 unfold Zlb
 split
 ·rename_i id off0 hbp
  split
  ·rename_i TT cs hbox
   split
   ·rename_i id2 T off len hT
    split
    ·rename_i T' o els hl
     have hM:=h.rel.mem
     have hb:M.hp id=some (some (.box TT cs)):=(Zdk h id).trans hbox
     have hb2:M.hp id2=some (some (.row T' o els)):=(Zdk h id2).trans hl
     have hne:id≠id2:=fun e=>by rw[e,hb2] at hb;cases hb
     obtain⟨g,c,T0,q1,q2,q3,q4,q5,q6⟩:=hM.box hb
     have hjl:=sl_at (tab:=tab) (E:=E) (M:=M) hT
     have hcj:=q4 j hjl
     rw[hT] at hcj
     obtain⟨m1,m2⟩:=Zop hM id2
     generalize hM1:({ M with top:=fun i=>if i=id2 then[] else M.top i,nest:=fun i=>if i=id2 then[] else M.nest i,hp:=fun i=>if i=id2 then some none else M.hp i }:Mem)=M1 at m1 m2
     have e1:M1.w=M.w:=by rw[←hM1]
     have eρ:M1.ρ=M.ρ:=by rw[←hM1]
     have ehp:M1.hp=fun i=>if i=id2 then some none else M.hp i:=by rw[←hM1]
     have etop:M1.top=fun i=>if i=id2 then[] else M.top i:=by rw[←hM1]
     have hx:M1.Rs tab E (.inl T (cut els off len)) (c.getD j undef):=by
      refine .tree ?_
      rw[e1]
      refine Zf7 hM hcj hb2 m2.ok fun g' hg'=>?_
      have hmi:=hM.mine id2 g' (List.mem_append_left _ hg')
      refine⟨.inr hmi.1,by rw[e1];exact hmi.2,fun i hi=>?_⟩
      rw[etop] at hi
      simp only at hi
      split at hi
      ·simp at hi
      ·rename_i hni;exact hM.apart i id2 hni g' (List.mem_append_left _ hi) (List.mem_append_left _ hg')
     have hb':M1.hp id=some (some (.box TT cs)):=by rw[ehp];simp only[if_neg hne];exact hb
     obtain⟨g',c',T0',r1,r2,r3,r4,r5,r6⟩:=m1.box hb'
     have hr1:=m2.ρ _ _ q1
     rw[r1] at hr1
     simp only[Option.some.injEq,RB.box.injEq] at hr1
     subst hr1
     rw[e1,q2] at r2
     cases r2
     obtain⟨n1,n2⟩:=ZiV (b':=.box TT (cs.set j (.inl T (cut els off len)))) (n':=[]) m1 hb' (List.nil_sublist _) (by
      refine⟨g',c,T0,r1,by rw[e1];exact q2,by simpa using r3,fun k hk=>?_,r5,rfl⟩
      have hk:k<cs.length:=by simpa using hk
      rw[ZeL hk]
      split
      ·rename_i e;subst e;exact hx
      ·exact r4 k hk)
     refine⟨{ M1 with hp:=fun i=>if i=id then some (some (.box TT (cs.set j (.inl T (cut els off len))))) else M1.hp i,nest:=fun i=>if i=id then[] else M1.nest i },e1,⟨⟨n1, .refl _ _,?_,fun u=>n2.rs (m2.rs (h.rel.slots u))⟩,(h.lent.mono m2.ρ).mono n2.ρ,fun i hi=>?_,h.size,h.defers⟩⟩
     ·funext i
      show(if i=id then some (some (Blk.box TT (cs.set j (.inl T (cut els off len))))) else M1.hp i)=look ((id,some (Blk.box TT (cs.set j (.inl T (cut els off len))))) :: (id2,none) :: s.hp) i
      rw[ZF,ZF,ehp,h.rel.hp];rfl
     ·show look ((id,some (Blk.box TT (cs.set j (.inl T (cut els off len))))) :: (id2,none) :: s.hp) i=none
      have h0:look s.hp i=none:=h.fresh i hi
      rw[ZF,if_neg,ZF,if_neg]
      ·exact h0
      ·intro e
       have e:i=id2:=e
       rw[e,hl] at h0;cases h0
      ·intro e
       have e:i=id:=e
       rw[e,hbox] at h0;cases h0
    ·exact hsame
   ·exact hsame
  ·exact hsame
 ·rename_i cs hag
  split
  ·rename_i id2 T off len hT
   split
   ·rename_i T' o els hl
    refine Zis h hl _ fun M1 e1 m2 hx=>?_
    have hs:=h.rel.slots t
    rw[show s.F.sl t=V.agg cs from hag] at hs
    obtain⟨vals,e,hlen,hj⟩:=hs.agg_inv
    rw[e]
    refine .agg _ vals (by rw[List.length_set];exact hlen) fun k hk=>?_
    have hk:k<cs.length:=by simpa using hk
    rw[ZeL hk]
    split
    ·rename_i e;subst e
     have:=hj j hk
     rw[hT] at this
     exact hx _ _ _ _ this
    ·exact m2.rs (hj k hk)
   ·exact hsame
  ·exact hsame
 ·rename_i id2 T off len hsl
  split
  ·rename_i T' o els hl
   refine Zis h hl _ fun M1 e1 m2 hx=>?_
   have hs:=h.rel.slots t
   rw[show s.F.sl t=V.sl id2 T off len from hsl] at hs
   exact hx _ _ _ _ hs
  ·exact hsame
 ·exact hsame
theorem ZgW {tab:Tab} (hT0:ZB P tab) {E:Entry} {N:Nat} {ps:List (V×Value)} {M:Mem} {s:St} {a:Act} (h:Rel tab E N ps M s a) (x:Fix):∃M',M'.w=M.w∧Rel tab E N ps M' (Zka tab s x) a:=by
 have hsame:∃M',M'.w=M.w∧Rel tab E N ps M' s a:=⟨M,rfl,h⟩
 have hsoft:∀id,∃M',M'.w=M.w∧Rel tab E N ps M' (bif x.own then s else Zg6 s id) a:=fun id=>by
  cases x.own
  ·exact Zir h id
  ·exact hsame
 have hfresh:∀{id:Nat} {T:TypeId},s.nid+1≤id→look ((s.nid,some (Blk.row T x.own [])) :: s.hp) id=none:=fun {id T} hid=>by
  rw[ZF,if_neg (by simp;omega)]
  exact h.fresh id (by omega)
 have hcut:∀(id T n:Nat) (v:Value) (f:V→St→St),M.Rs tab E (.sl id T 0 (some n)) v→
   (∀(T':TypeId) (o:Bool) (els:List V) (M':Mem),look s.hp id=some (some (.row T' o els))→M'.w=M.w→MemOk tab E M'→MemLe E M M'→M'.hp=look ((s.nid,some (Blk.row T' (o&&x.own) (els.take n))) :: (id,none) :: s.hp)→M'.Rs tab E (.sl s.nid T' 0 none) v→
    ∃M'',M''.w=M.w∧Rel tab E N ps M'' (f (.sl s.nid T' 0 none) { sl:=s.sl,hp:=(s.nid,some (.row T' (o&&x.own) (els.take n))) :: (id,none) :: s.hp,nid:=s.nid+1,lent:=s.lent }) a)→
   ∃M',M'.w=M.w∧Rel tab E N ps M' (ZiP s id n x.own f) a:=fun id T n v f hx hf=>by
  unfold ZiP
  split
  ·rename_i T' o els hl
   obtain⟨M',e1,m1,m2,m3,m4⟩:=ZnX (own:=x.own) h hl hx
   exact hf T' o els M' hl e1 m1 m2 m3 m4
  ·exact hsame
 have hfresh2:∀{i id:Nat} {b:Option Blk},(look s.hp id).isSome=true→s.nid+1≤i→look ((s.nid,b) :: (id,none) :: s.hp) i=none:=fun {i id b} hs hi=>by
  rw[ZF,if_neg (by simp;omega),ZF,if_neg]
  ·exact h.fresh i (by omega)
  ·intro e
   have e:i=id:=e
   have:=h.fresh i (by omega)
   have this:look s.hp i=none:=this
   rw[e] at this;rw[this] at hs;cases hs
 have hslot2:∀(v:V) (M':Mem) (id:Nat) (b:Option Blk),(look s.hp id).isSome=true→M'.w=M.w→MemOk tab E M'→MemLe E M M'→M'.hp=look ((s.nid,b) :: (id,none) :: s.hp)→M'.Rs tab E v (a.eval (.tmp x.slot))→
   Rel tab E N ps M' { sl:=(x.slot,v) :: s.sl,hp:=(s.nid,b) :: (id,none) :: s.hp,nid:=s.nid+1,lent:=s.lent } a:=fun v M' id b hs e1 m1 m2 m3 m4=>by
  refine⟨⟨m1, .refl _ _,m3,fun u=>?_⟩,h.lent.mono m2.ρ,fun i hi=>hfresh2 hs hi,h.size,h.defers⟩
  have:(St.F { sl:=(x.slot,v) :: s.sl,hp:=(s.nid,b) :: (id,none) :: s.hp,nid:=s.nid+1,lent:=s.lent }).sl u=if u=x.slot then v else s.slot u:=ZeK s x.slot v u
  rw[this]
  split
  ·rename_i e;subst e;exact m4
  ·exact m2.rs (h.rel.slots u)
 have hslot:∀(T:TypeId) (ty:Ty) (v:V) (M':Mem),M'.w=M.w→MemOk tab E M'→MemLe E M M'→M'.hp=look ((s.nid,some (Blk.row T x.own [])) :: s.hp)→M'.Rs tab E v (a.eval (.tmp x.slot))→
   Rel tab E N ps M' { sl:=(x.slot,v) :: s.sl,hp:=(s.nid,some (Blk.row T x.own [])) :: s.hp,nid:=s.nid+1,lent:=s.lent } a:=fun T ty v M' e1 m1 m2 m3 m4=>by
  refine⟨⟨m1, .refl _ _,m3,fun u=>?_⟩,h.lent.mono m2.ρ,fun id hid=>hfresh hid,h.size,h.defers⟩
  have:(St.F { sl:=(x.slot,v) :: s.sl,hp:=(s.nid,some (Blk.row T x.own [])) :: s.hp,nid:=s.nid+1,lent:=s.lent }).sl u=if u=x.slot then v else s.slot u:=ZeK s x.slot v u
  rw[this]
  split
  ·rename_i e;subst e;exact m4
  ·exact m2.rs (h.rel.slots u)
 unfold Zka
 split
 ·split
  ·rename_i T hT
   split
   ·rename_i ty hty
    have hv:=h.rel.slots x.slot
    have hT':s.F.sl x.slot = .nil T:=hT
    rw[hT'] at hv
    obtain⟨a0,hv⟩:=hv.nil
    obtain⟨M',e1,m1,m2,m3,m4⟩:=Zgl h x.own hty a0
    exact⟨M',e1,hslot T ty _ M' e1 m1 m2 m3 (by rw[hv];exact m4)⟩
   ·exact hsame
  ·rename_i id T n hsl
   have hv:=h.rel.slots x.slot
   have hT':s.F.sl x.slot = .sl id T 0 (some n):=hsl
   rw[hT'] at hv
   exact hcut id T n _ _ hv fun T' o els M' hl e1 m1 m2 m3 m4=>⟨M',e1,hslot2 _ M' id _ (by rw[hl];rfl) e1 m1 m2 m3 m4⟩
  ·cases hown:x.own
   ·exact Zir h _
   ·exact Zjs hT0 h _
  ·exact hsame
 ·rename_i j hj
  split
  ·rename_i cs hcs
   split
   ·rename_i T hT
    split
    ·rename_i ty hty
     have hv:=h.rel.slots x.slot
     have hT':s.F.sl x.slot = .agg cs:=hcs
     rw[hT'] at hv
     obtain⟨vals,hv,hl,hc⟩:=hv.agg_inv
     have hjl:=nil_at (tab:=tab) (E:=E) (M:=M) hT
     have hcj:=hc j hjl
     rw[hT] at hcj
     obtain⟨a0,hv0⟩:=hcj.nil
     obtain⟨M',e1,m1,m2,m3,m4⟩:=Zgl h x.own hty a0
     refine⟨M',e1,hslot T ty _ M' e1 m1 m2 m3 ?_⟩
     rw[hv]
     refine .agg _ vals (by simpa using hl) fun k hk=>?_
     have hk:k<cs.length:=by simpa using hk
     rw[ZeL hk]
     split
     ·rename_i e;subst e;rw[hv0];exact m4
     ·exact m2.rs (hc k hk)
    ·exact hsame
   ·rename_i id T n hT
    have hv:=h.rel.slots x.slot
    have hT':s.F.sl x.slot = .agg cs:=hcs
    rw[hT'] at hv
    obtain⟨vals,hv,hl,hc⟩:=hv.agg_inv
    have hjl:=sl_at (tab:=tab) (E:=E) (M:=M) hT
    have hcj:=hc j hjl
    rw[hT] at hcj
    refine hcut id T n _ _ hcj fun T' o els M' hlk e1 m1 m2 m3 m4=>⟨M',e1,hslot2 _ M' id _ (by rw[hlk];rfl) e1 m1 m2 m3 ?_⟩
    rw[hv]
    refine .agg _ vals (by simpa using hl) fun k hk=>?_
    have hk:k<cs.length:=by simpa using hk
    rw[ZeL hk]
    split
    ·rename_i e;subst e;exact m4
    ·exact m2.rs (hc k hk)
   ·exact hsoft _
   ·exact hsame
  ·rename_i id off hbp
   split
   ·rename_i TT cs hbox
    split
    ·rename_i T hT
     split
     ·rename_i ty hty
      have hb:M.hp id=some (some (.box TT cs)):=(Zdk h id).trans hbox
      obtain⟨g,c,T0,q1,q2,q3,q4,q5,q6⟩:=h.rel.mem.box hb
      have hjl:=nil_at (tab:=tab) (E:=E) (M:=M) hT
      have hcj:=q4 j hjl
      rw[hT] at hcj
      obtain⟨a0,hv0⟩:=hcj.nil
      obtain⟨M',e1,m1,m2,m3,m4⟩:=Zgl h x.own hty a0
      have hne:id≠s.nid:=by
       intro e
       have:=h.fresh s.nid (Nat.le_refl _)
       have this:look s.hp s.nid=none:=this
       rw[←e,hbox] at this;cases this
      have hb':M'.hp id=some (some (.box TT cs)):=by rw[m3,ZF,if_neg hne];exact hbox
      obtain⟨g',c',T0',r1,r2,r3,r4,r5,r6⟩:=m1.box hb'
      have hr1:=m2.ρ _ _ q1
      rw[r1] at hr1
      simp only[Option.some.injEq,RB.box.injEq] at hr1
      subst hr1
      rw[e1,q2] at r2
      cases r2
      obtain⟨n1,n2⟩:=ZiV (b':=.box TT (cs.set j (.sl s.nid T 0 none))) (n':=[]) m1 hb' (List.nil_sublist _) (by
       refine⟨g',c,T0,r1,by rw[e1];exact q2,by simpa using r3,fun k hk=>?_,r5,rfl⟩
       have hk:k<cs.length:=by simpa using hk
       rw[ZeL hk]
       split
       ·rename_i e;subst e;rw[hv0];exact m4
       ·exact r4 k hk)
      refine⟨{ M' with hp:=fun i=>if i=id then some (some (.box TT (cs.set j (.sl s.nid T 0 none)))) else M'.hp i,nest:=fun i=>if i=id then[] else M'.nest i },e1,⟨⟨n1, .refl _ _,?_,fun u=>n2.rs (m2.rs (h.rel.slots u))⟩,(h.lent.mono m2.ρ).mono n2.ρ,fun i hi=>?_,h.size,h.defers⟩⟩
      ·funext i
       show(if i=id then some (some (Blk.box TT (cs.set j (.sl s.nid T 0 none)))) else M'.hp i)=look ((id,some (Blk.box TT (cs.set j (.sl s.nid T 0 none)))) :: (s.nid,some (Blk.row T x.own [])) :: s.hp) i
       rw[ZF,m3]
      ·show look ((id,some (Blk.box TT (cs.set j (.sl s.nid T 0 none)))) :: (s.nid,some (Blk.row T x.own [])) :: s.hp) i=none
       have hi:s.nid+1≤i:=hi
       rw[ZF,if_neg]
       ·exact hfresh hi
       ·intro e
        have e:i=id:=e
        have:=h.fresh i (by omega)
        have this:look s.hp i=none:=this
        rw[e,hbox] at this;cases this
     ·exact hsame
    ·rename_i id2 T n hT
     cases hbe:Nat.beq id2 id with
     | true=>exact hsame
     | false=>
      have hne2:id2≠id:=fun e=>by rw[e,Nat.beq_refl] at hbe;cases hbe
      have hb:M.hp id=some (some (.box TT cs)):=(Zdk h id).trans hbox
      obtain⟨g,c,T0,q1,q2,q3,q4,q5,q6⟩:=h.rel.mem.box hb
      have hjl:=sl_at (tab:=tab) (E:=E) (M:=M) hT
      have hcj:=q4 j hjl
      rw[hT] at hcj
      have hne:id≠s.nid:=by
       intro e
       have:=h.fresh s.nid (Nat.le_refl _)
       have this:look s.hp s.nid=none:=this
       rw[←e,hbox] at this;cases this
      rw[cond_false]
      refine hcut id2 T n _ _ hcj fun T' o els M' hlk e1 m1 m2 m3 m4=>?_
      have hb':M'.hp id=some (some (.box TT cs)):=by rw[m3,ZF,if_neg hne,ZF,if_neg (Ne.symm hne2)];exact hbox
      obtain⟨g',c',T0',r1,r2,r3,r4,r5,r6⟩:=m1.box hb'
      have hr1:=m2.ρ _ _ q1
      rw[r1] at hr1
      simp only[Option.some.injEq,RB.box.injEq] at hr1
      subst hr1
      rw[e1,q2] at r2
      cases r2
      obtain⟨n1,n2⟩:=ZiV (b':=.box TT (cs.set j (.sl s.nid T' 0 none))) (n':=[]) m1 hb' (List.nil_sublist _) (by
       refine⟨g',c,T0,r1,by rw[e1];exact q2,by simpa using r3,fun k hk=>?_,r5,rfl⟩
       have hk:k<cs.length:=by simpa using hk
       rw[ZeL hk]
       split
       ·rename_i e;subst e;exact m4
       ·exact r4 k hk)
      refine⟨{ M' with hp:=fun i=>if i=id then some (some (.box TT (cs.set j (.sl s.nid T' 0 none)))) else M'.hp i,nest:=fun i=>if i=id then[] else M'.nest i },e1,⟨⟨n1, .refl _ _,?_,fun u=>n2.rs (m2.rs (h.rel.slots u))⟩,(h.lent.mono m2.ρ).mono n2.ρ,fun i hi=>?_,h.size,h.defers⟩⟩
      ·funext i
       show(if i=id then some (some (Blk.box TT (cs.set j (.sl s.nid T' 0 none)))) else M'.hp i)=look ((id,some (Blk.box TT (cs.set j (.sl s.nid T' 0 none)))) :: (s.nid,some (Blk.row T' (o&&x.own) (els.take n))) :: (id2,none) :: s.hp) i
       rw[ZF,m3]
      ·show look ((id,some (Blk.box TT (cs.set j (.sl s.nid T' 0 none)))) :: (s.nid,some (Blk.row T' (o&&x.own) (els.take n))) :: (id2,none) :: s.hp) i=none
       have hi:s.nid+1≤i:=hi
       rw[ZF,if_neg]
       ·exact hfresh2 (by rw[hlk];rfl) hi
       ·intro e
        have e:i=id:=e
        have:=h.fresh i (by omega)
        have this:look s.hp i=none:=this
        rw[e,hbox] at this;cases this
    ·exact hsoft _
    ·exact hsame
   ·exact hsame
  ·exact hsame
theorem ZoX {tab:Tab} (hT0:ZB P tab) {E:Entry} {N:Nat} {ps:List (V×Value)} {M:Mem} {s:St} {a:Act} (h:Rel tab E N ps M s a) (x:Fix):∃M',M'.w=M.w∧Rel tab E N ps M' (thaw tab s x) a:=by
 unfold thaw
 split
 ·exact ZgW hT0 h x
 ·rename_i j _
  cases Nat.ble 1000 j
  ·exact ZgW hT0 h x
  ·exact Zl5 h _ _
theorem Zet {tab:Tab} (hT0:ZB P tab) {E:Entry} {N:Nat} {ps:List (V×Value)} {a:Act}:∀(ts:List Fix) {M:Mem} {s:St},Rel tab E N ps M s a→∃M',M'.w=M.w∧Rel tab E N ps M' (Ze9 tab s ts) a
 | [],M,s,h=>⟨M,rfl,h⟩
 | t :: ts,M,s,h=>by
  obtain⟨M1,h1,h2⟩:=ZoX hT0 h t
  obtain⟨M2,h3,h4⟩:=Zet hT0 ts h2
  exact⟨M2,h3.trans h1,h4⟩
theorem Zkz {tab:Tab} (hT0:ZB P tab) {E:Entry} {N:Nat} {ps:List (V×Value)} {M:Mem} {s:St} {a:Act} (h:Rel tab E N ps M s a) (keep:List Nat) (thaws:List Fix):∃M',M'.w=M.w∧Rel tab E N ps M' (head tab keep thaws s) a:=by
 obtain⟨M1,h1,h2⟩:=Zet hT0 thaws h
 obtain⟨M2,h3,h4⟩:=ZgV h2 keep
 exact⟨M2,h3.trans h1,h4⟩
def ZfA:Ex→Exit
 | .normal=>.normal
 | .exit id=>.exit id
 | .ret=>.ret
def ZaY (N:Nat):Code→Bool
 | .region _ ops draw=>ops.toList.all (fun o=>match o.dst with | some d=>decide (d<N) | none=>true)&&(!draw||Zhb ops (CheckFast.beforeF ops).toList)
 | .seq a b=>ZaY N a&&ZaY N b
 | .cond _ a b=>ZaY N a&&ZaY N b
 | .block _ a=>ZaY N a
 | .loop a=>ZaY N a
 | _=>true
def ZC (cfg:Cfg) (L:Loops):Code→Prop
 | .seq a b=>ZC cfg L a∧ZC cfg L b
 | .cond _ a b=>ZC cfg L a∧ZC cfg L b
 | .block _ a=>ZC cfg L a
 | .loop a=>(∀s o r,L.run (Zbo a) s=some o→o.get=some r→∃n,ZJ cfg L a n s=some r)∧ZC cfg L a
 | _=>True
theorem Out.fold_eq {X:Type} {k:Ex→St→Option X}:∀{o:Out} {x:X},o.fold k=some x→∃r,o.get=some r∧k r.1 r.2=some x
 | .leaf e s,x,h=>⟨(e,s),rfl,h⟩
 | .br b t f,x,h=>by
  cases b with
  | true=>exact Out.fold_eq (o:=t) h
  | false=>exact Out.fold_eq (o:=f) h
 | .tst b o,x,h=>by
  cases b with
  | true=>exact Out.fold_eq (o:=o) h
  | false=>cases h
theorem least {p:Nat→Prop} (h:∃n,p n):∃n,p n∧∀m,p m→n≤m:=by
 obtain⟨n,hn⟩:=h
 induction n using Nat.strongRecOn with
 | ind n ih=>
  by_cases hm:∃m,m<n∧p m
  ·obtain⟨m,hlt,hm⟩:=hm
   exact ih m hlt hm
  ·exact⟨n,hn,fun m hpm=>by
    rcases Nat.lt_or_ge m n with h | h
    ·exact absurd ⟨m,h,hpm⟩ hm
    ·exact h⟩
theorem ZlG {c:Code} {Q:Exit→Act→World→Prop} (I:Nat→Act→World→Prop) (h0:∀a w,¬I 0 a w) (round:∀n a w,I (n+1) a w→c.wp P (Exit.then (I n) Q) a w) {n:Nat} {a:Act} {w:World} (h:I n a w):
  (Code.loop c).wp P Q a w:=by
 have hex:∀(a:Act) (w:World),∃μ:Nat,(∃n,I n a w)→I μ a w∧∀m,I m a w→μ≤m:=by
  intro a w
  by_cases hh:∃n,I n a w
  ·obtain⟨n,h1,h2⟩:=least hh
   exact⟨n,fun _=>⟨h1,h2⟩⟩
  ·exact⟨0,fun h=>absurd h hh⟩
 let μ:Act→World→Nat:=fun a w=>Classical.choose (hex a w)
 have hμ:∀a w,(∃n,I n a w)→I (μ a w) a w∧∀m,I m a w→μ a w≤m:=fun a w=>Classical.choose_spec (hex a w)
 refine wp_loop (fun a w=>∃n,I n a w) μ ⟨n,h⟩ fun a w hI=>?_
 obtain⟨h1,h2⟩:=hμ a w hI
 obtain⟨m,hm⟩:∃m,μ a w=m+1:=by
  cases hq:μ a w with
  | zero=>rw[hq] at h1;exact absurd h1 (h0 a w)
  | succ m=>exact⟨m,rfl⟩
 rw[hm] at h1
 refine wp_mono (round m a w h1) fun e a' w' hq=>?_
 cases e with
 | normal=>
  have hq:I m a' w':=hq
  have:=(hμ a' w' ⟨m,hq⟩).2 m hq
  exact⟨⟨m,hq⟩,by show μ a' w'<μ a w;omega⟩
 | _=>exact hq
theorem Zdb {cfg:Cfg} (hT:ZB P cfg.tab) (hS:Zbk P cfg.tab cfg.sums) (hmix:P.follows .mixedOrders=true) (L:Loops) (E:Entry) (N:Nat) (ps:List (V×Value)):
  ∀(c:Code),ZaY N c=true→ZC cfg L c→∀(X:Type) (s:St) (k:Ex→St→Option X) (x:X),Zcb cfg L c s k=some x→
   ∃e s',k e s'=some x∧∀(M:Mem) (a:Act),Rel cfg.tab E N ps M s a→∀Q:Exit→Act→World→Prop,(∀M' a',Rel cfg.tab E N ps M' s' a'→Q (ZfA e) a' M'.w)→c.wp P Q a M.w
 | .skip,_,_,X,s,k,x,h=>⟨.normal,s,h,fun M a hR Q hQ=>wp_skip (hQ M a hR)⟩
 | .label l,_,_,X,s,k,x,h=>⟨.normal,s,h,fun M a hR Q hQ=>wp_label (hQ M a hR)⟩
 | .exit id,_,_,X,s,k,x,h=>⟨.exit id,s,h,fun M a hR Q hQ=>wp_exit (hQ M a hR)⟩
 | .ret,_,_,X,s,k,x,h=>⟨.ret,s,h,fun M a hR Q hQ=>wp_ret (hQ M a hR)⟩
 | .region rid ops draw,hc,_,X,s,k,x,h=>by
  simp only[ZaY,Bool.and_eq_true,List.all_eq_true] at hc
  obtain⟨hd,hp⟩:=hc
  have hdst:∀(a:Act),a.tmps.size=N→∀o∈ops.toList,∀d,o.dst=some d→d<a.tmps.size:=fun a ha o ho d hd'=>by
   have:=hd o ho
   rw[hd'] at this
   rw[ha];simpa using this
  cases draw with
  | false=>
   obtain⟨es,s',he,hF,hn,hlt,hk⟩:=Zfk _ _ _ _ _ h
   refine⟨.normal,s',hk,fun M0 a hR0 Q hQ=>?_⟩
   obtain⟨M,ew,hR⟩:=Zet hT (L.frz rid) hR0
   rw[←ew]
   refine ZoW hT hS he hR.rel hR.fresh (hdst a hR.size) fun M' a' hR' h1 h2=>hQ M' a' ⟨⟨hR'.mem, .refl _ _,by rw[hF];exact hR'.hp,by rw[hF];exact hR'.slots⟩,by rw[hlt];exact hR.lent.mono hR'.le.ρ,?_,h1.trans hR.size,h2.trans hR.defers⟩
   intro id hid
   have hf:=Zil (F:=(Ze9 cfg.tab s (L.frz rid)).F) hR.fresh es id (by rw[←hn];exact hid)
   rw[←hF] at hf;exact hf
  | true=>
   obtain⟨es,s',he,hF,hn,hlt,hk⟩:=Zfk _ _ _ _ _ h
   simp only[List.append_nil,List.reverse_reverse] at hk
   cases hcl:(Zd3 (es.map Ent.recd).reverse||Zc6 (CheckFast.beforeF ops).toList 0 (es.map Ent.recd)) with
   | false=>rw[hcl] at hk;cases hk
   | true=>
    rw[hcl] at hk
    rw[CheckFast.beforeF_eq] at hcl hp
    refine⟨.normal,s',hk,fun M0 a hR0 Q hQ=>?_⟩
    obtain⟨M,ew,hR⟩:=Zet hT (L.frz rid) hR0
    rw[←ew]
    refine ZnW hT hS hmix he hR.rel hR.fresh (hdst a hR.size) (by simpa using hp) (by simpa [Zd3] using hcl) fun M' a' hR' h1 h2=>hQ M' a' ⟨⟨hR'.mem, .refl _ _,by rw[hF];exact hR'.hp,by rw[hF];exact hR'.slots⟩,by rw[hlt];exact hR.lent.mono hR'.le.ρ,?_,h1.trans hR.size,h2.trans hR.defers⟩
    intro id hid
    have hf:=Zil (F:=(Ze9 cfg.tab s (L.frz rid)).F) hR.fresh es id (by rw[←hn];exact hid)
    rw[←hF] at hf;exact hf
 | .seq c1 c2,hc,hl,X,s,k,x,h=>by
  simp only[ZaY,Bool.and_eq_true] at hc
  obtain⟨e1,s1,h1,w1⟩:=Zdb hT hS hmix L E N ps c1 hc.1 hl.1 X s _ x h
  cases e1 with
  | normal=>
   obtain⟨e2,s2,h2,w2⟩:=Zdb hT hS hmix L E N ps c2 hc.2 hl.2 X s1 k x h1
   exact⟨e2,s2,h2,fun M a hR Q hQ=>wp_seq (w1 M a hR _ fun M' a' hR'=>w2 M' a' hR' Q hQ)⟩
  | exit id=>exact⟨.exit id,s1,h1,fun M a hR Q hQ=>wp_seq (w1 M a hR _ fun M' a' hR'=>hQ M' a' hR')⟩
  | ret=>exact⟨.ret,s1,h1,fun M a hR Q hQ=>wp_seq (w1 M a hR _ fun M' a' hR'=>hQ M' a' hR')⟩
 | .cond c c1 c2,hc,hl,X,s,k,x,h=>by
  simp only[ZaY,Bool.and_eq_true] at hc
  have ih1:=Zdb hT hS hmix L E N ps c1 hc.1 hl.1 X
  have ih2:=Zdb hT hS hmix L E N ps c2 hc.2 hl.2 X
  have hput:∀t b,s.slot t = .bool b→∀M a,Rel cfg.tab E N ps M s a→Rel cfg.tab E N ps M (s.put (some t) (.bool b)) a:=fun t b hb M a hR=>by
   obtain⟨q1,q2⟩:=ZjG s t _ hb
   exact⟨by rw[q1];exact hR.rel,hR.lent,fun id hid=>hR.fresh id hid,hR.size,hR.defers⟩
  have hev:∀t b,s.slot t = .bool b→∀M a,Rel cfg.tab E N ps M s a→a.eval (.tmp t) = .bool b:=fun t b hb M a hR=>by
   have:=hR.rel.slots t
   have hb':s.F.sl t = .bool b:=hb
   rw[hb'] at this
   exact this.bool
  unfold Zcb at h
  split at h
  ·rename_i t
   cases hs:s.slot t with
   | bool b=>
    rw[hs] at h
    cases b with
    | true=>
     obtain⟨e,s',h1,w1⟩:=ih1 _ k x h
     exact⟨e,s',h1,fun M a hR Q hQ=>wp_cond_true (hev t true hs M a hR) (w1 M a (hput t true hs M a hR) Q hQ)⟩
    | false=>
     obtain⟨e,s',h1,w1⟩:=ih2 _ k x h
     exact⟨e,s',h1,fun M a hR Q hQ=>wp_cond_false (hev t false hs M a hR) (w1 M a (hput t false hs M a hR) Q hQ)⟩
   | _=>rw[hs] at h;cases h
  ·obtain⟨e,s',h1,w1⟩:=ih1 _ k x h
   exact⟨e,s',h1,fun M a hR Q hQ=>wp_cond_true rfl (w1 M a hR Q hQ)⟩
  ·obtain⟨e,s',h1,w1⟩:=ih2 _ k x h
   exact⟨e,s',h1,fun M a hR Q hQ=>wp_cond_false rfl (w1 M a hR Q hQ)⟩
  ·cases h
 | .block id c1,hc,hl,X,s,k,x,h=>by
  obtain⟨e1,s1,h1,w1⟩:=Zdb hT hS hmix L E N ps c1 hc hl X s _ x h
  cases e1 with
  | normal=>exact⟨.normal,s1,h1,fun M a hR Q hQ=>wp_block (w1 M a hR _ fun M' a' hR'=>hQ M' a' hR')⟩
  | ret=>exact⟨.ret,s1,h1,fun M a hR Q hQ=>wp_block (w1 M a hR _ fun M' a' hR'=>hQ M' a' hR')⟩
  | exit j=>
   dsimp only at h1
   by_cases hj:j=id
   ·subst hj
    simp at h1
    exact⟨.normal,s1,h1,fun M a hR Q hQ=>wp_block (w1 M a hR _ fun M' a' hR'=>by
     simpa [ZfA,Exit.inBlock] using hQ M' a' hR')⟩
   ·have hb:Nat.beq j id=false:=by
     cases hb:Nat.beq j id
     ·rfl
     ·exact absurd (Nat.eq_of_beq_eq_true hb) hj
    rw[hb] at h1
    exact⟨.exit j,s1,h1,fun M a hR Q hQ=>wp_block (w1 M a hR _ fun M' a' hR'=>by
     simpa [ZfA,Exit.inBlock,hj] using hQ M' a' hR')⟩
 | .loop c1,hc,hl,X,s,k,x,h=>by
  obtain⟨hrun,hl1⟩:=hl
  obtain⟨o,h1,h2⟩:=Option.bind_eq_some_iff.1 h
  obtain⟨r,h3,h2⟩:=Out.fold_eq h2
  obtain⟨n,hn⟩:=hrun _ _ _ h1 h3
  have ih:=Zdb hT hS hmix L E N ps c1 hc hl1 (Ex×St)
  refine⟨r.1,r.2,h2,fun M a hR Q hQ=>?_⟩
  obtain⟨M0,hw0,hR0⟩:=Zkz hT hR (L.keep (Zbo c1)) (L.thaws (Zbo c1))
  rw[←hw0]
  refine ZlG (fun n a w=>∃M s1,M.w=w∧Rel cfg.tab E N ps M s1 a∧ZJ cfg L c1 n s1=some r) (fun a w=>?_) (fun n a w=>?_) (n:=n) ⟨M0,_,rfl,hR0,hn⟩
  ·rintro⟨M,s1,_,_,hr⟩
   simp[ZJ] at hr
  ·rintro⟨M1,s1,rfl,hR1,hr⟩
   simp only[ZJ] at hr
   obtain⟨e',s'',hr2,w1⟩:=ih s1 _ _ hr
   refine w1 M1 a hR1 _ fun M' a' hR'=>?_
   cases e' with
   | normal=>
    obtain⟨M2,hw2,hR2⟩:=Zkz hT hR' (L.keep (Zbo c1)) (L.thaws (Zbo c1))
    exact⟨M2,_,hw2,hR2,hr2⟩
   | exit id=>
    simp only[Option.some.injEq] at hr2
    subst hr2
    obtain⟨M2,hw2,hR2⟩:=ZgV hR' (L.outs (Zbo c1))
    rw[←hw2]
    exact hQ M2 a' hR2
   | ret=>
    simp only[Option.some.injEq] at hr2
    subst hr2
    obtain⟨M2,hw2,hR2⟩:=ZgV hR' (L.outs (Zbo c1))
    rw[←hw2]
    exact hQ M2 a' hR2
 | .rangeFunc _ _ _ _,_,_,X,s,k,x,h=>by cases h
 | .scope _,_,_,X,s,k,x,h=>by cases h
 | .goto _,_,_,X,s,k,x,h=>by cases h
 | .refuse _,_,_,X,s,k,x,h=>by cases h
end
end Go.Eng
namespace Go.Eng
section
variable {P:Program} {tab:Tab}
def LentR (tab:Tab) (ρ:Nat→Option RB) (ps:List (V×Value)) (is:List Nat):Prop:=LentL tab ⟨default,ρ,fun _=>[],fun _=>[],fun _=>none⟩ ps is
theorem LentR.of {M:Mem} {ps:List (V×Value)} {is:List Nat} (h:LentR tab M.ρ ps is):LentL tab M ps is:=by
 unfold LentR at h
 generalize hM:(⟨default,M.ρ,fun _=>[],fun _=>[],fun _=>none⟩:Mem)=M0 at h
 have hρ:M0.ρ=M.ρ:=by rw[←hM]
 induction h with
 | nil=>exact .nil
 | cons h1 _ ih=>
  refine .cons ?_ ih
  unfold Zgh at h1 ⊢
  rw[hρ] at h1;exact h1
theorem LentR.append {ρ:Nat→Option RB} {ps qs:List (V×Value)} {is js:List Nat} (h:LentR tab ρ ps is) (k:LentR tab ρ qs js):LentR tab ρ (ps++qs) (is++js):=LentL.append h k
theorem ZgX {w:World} {ok:Nat→Prop} {x:V} {v:Value} {t n:List Nat} (h:Rq1 tab w ok x v t n) (nid:Nat):
  Adopted tab w ok nid (ZaX nid x).2 t n fun ρ=>Rs tab w ok ρ (ZaX nid x).1 v∧LentR tab ρ (ZaP [x] [v]) (ZdR nid [x]):=by
 cases h with
 | tree h=>
  rw[Zje h]
  refine .none fun ρ=>⟨.tree h,?_⟩
  cases h <;> exact .nil
 | row hrow=>
  rename_i T own els
  obtain⟨Bs,e1,e2,e3,e4⟩:=Zc8 (.row hrow) nid
  refine⟨Bs,e1,e2,e3,fun ρ hρ=>⟨⟨(e4 ρ hρ).1,?_⟩,(e4 ρ hρ).2⟩⟩
  obtain⟨b,hb⟩:∃b,Bs=[b]:=by
   have:Bs.length=1:=by have:=congrArg List.length e1;simpa [ZaX] using this.symm
   match Bs,this with
   | [b],_=>exact⟨b,rfl⟩
  subst hb
  have hb:=(e4 ρ hρ).2 b (by simp)
  simp only[ZaX,List.map_cons,List.map_nil,List.cons.injEq,and_true] at e1
  rw[←e1] at hb
  obtain⟨ty,v',q1,q2,q3,q4⟩:=hb
  have hr:=hρ 0 b rfl
  simp only[Nat.add_zero] at hr
  rw[q2] at hr
  have hs:=(e4 ρ hρ).1
  have hs:Rs tab w ok ρ (.sl nid T 0 none) v:=hs
  cases hs with
  | tree hs=>cases hs
  | sl _ _ _ _ sz N a a' cap m k1 k2 k3 k4 k5 k6=>
   rw[hr] at k1
   simp only[Option.some.injEq,RB.row.injEq,true_and] at k1
   obtain⟨-,hN,hv⟩:=k1
   subst hv
   obtain rfl:=k6 rfl
   simp only[Option.getD_none,Nat.sub_zero] at k3
   subst k3
   exact .cons ⟨ty,q1,by simpa using hr⟩ .nil
 | deep hrow=>
  rename_i T els n
  obtain⟨Bs,e1,e2,e3,e4⟩:=Zc8 (.deep hrow) nid
  refine⟨Bs,e1,e2,e3,fun ρ hρ=>⟨⟨(e4 ρ hρ).1,?_⟩,(e4 ρ hρ).2⟩⟩
  obtain⟨b,hb⟩:∃b,Bs=[b]:=by
   have:Bs.length=1:=by have:=congrArg List.length e1;simpa [ZaX] using this.symm
   match Bs,this with
   | [b],_=>exact⟨b,rfl⟩
  subst hb
  have hb:=(e4 ρ hρ).2 b (by simp)
  simp only[ZaX,List.map_cons,List.map_nil,List.cons.injEq,and_true] at e1
  rw[←e1] at hb
  obtain⟨ty,v',n',q1,q2,q3,q4,q5⟩:=hb
  have hr:=hρ 0 b rfl
  simp only[Nat.add_zero] at hr
  rw[q2] at hr
  have hs:=(e4 ρ hρ).1
  have hs:Rs tab w ok ρ (.sl nid T 0 none) v:=hs
  cases hs with
  | tree hs=>cases hs
  | sl _ _ _ _ sz N a a' cap m k1 k2 k3 k4 k5 k6=>
   rw[hr] at k1
   simp only[Option.some.injEq,RB.row.injEq,true_and] at k1
   obtain⟨-,hN,hv⟩:=k1
   subst hv
   obtain rfl:=k6 rfl
   simp only[Option.getD_none,Nat.sub_zero] at k3
   subst k3
   exact .cons ⟨ty,q1,by simpa using hr⟩ .nil
theorem ZmI (nid:Nat) (x:V) (xs:List V):ZdR nid (x :: xs)=ZdR nid [x]++ZdR (nid+(ZaX nid x).2.length) xs:=by
 cases x <;> simp[ZdR,ZaX]
theorem ZnY (x:V) (xs:List V) (v:Value) (vs:List Value):ZaP (x :: xs) (v :: vs)=ZaP [x] [v]++ZaP xs vs:=by
 cases x <;> simp[ZaP]
theorem Zlk {w:World} {ok:Nat→Prop} {xs:List V} {vs:List Value} {t n:List Nat} (h:RqL (Rq1 tab w ok) xs vs t n):
  ∀nid,Adopted tab w ok nid (ZaC ZaX nid xs).2 t n fun ρ=>RsL tab w ok ρ (ZaC ZaX nid xs).1 vs∧LentR tab ρ (ZaP xs vs) (ZdR nid xs):=by
 induction h with
 | nil=>exact fun nid=>.none fun ρ=>⟨.nil, .nil⟩
 | cons h1 _ ih=>
  intro nid
  refine(ZgX h1 nid).append (ih _) fun ρ s1 s2=>⟨RsL.cons s1.1 s2.1,?_⟩
  rw[ZnY,ZmI]
  exact s1.2.append s2.2
theorem ZoY {w:World} {ok:Nat→Prop} {x:V} {v:Value} {t n:List Nat} (h:Rq2 tab w ok x v t n) (nid:Nat):
  Adopted tab w ok nid (Zb4 nid x).2 t n fun ρ=>Rs tab w ok ρ (Zb4 nid x).1 v∧LentR tab ρ (Zcc x v) (Zh7 nid x):=by
 have hagg:∀(cs:List V) (vs:List Value) (t n:List Nat),RqL (Rq1 tab w ok) cs vs t n→Adopted tab w ok nid (Zb4 nid (.agg cs)).2 t n fun ρ=>Rs tab w ok ρ (Zb4 nid (.agg cs)).1 (.agg vs.toArray)∧LentR tab ρ (Zcc (.agg cs) (.agg vs.toArray)) (Zh7 nid (.agg cs)):=
  fun cs vs t n h=>(Zlk h nid).weaken fun ρ hs=>⟨Rs.agg _ _ hs.1.1 hs.1.2,hs.2⟩
 have hplain:(∀ρ,LentR tab ρ (Zcc x v) (Zh7 nid x))→Adopted tab w ok nid (Zb4 nid x).2 t n fun ρ=>Rs tab w ok ρ (Zb4 nid x).1 v∧LentR tab ρ (Zcc x v) (Zh7 nid x):=
  fun hl=>(ZeV h nid).weaken fun ρ hs=>⟨hs,hl ρ⟩
 cases h with
 | agg h=>exact hagg _ _ _ _ h
 | nb h hg=>exact hplain fun ρ=>.nil
 | @rf T cs c TT g t n h hg=>
  refine(ZeV (Rq2.rf (T:=T) h hg) nid).weaken fun ρ hs=>⟨hs,?_⟩
  have hs:Rs tab w ok ρ (.bp nid 0) (.pointer (some ⟨g,0,none⟩)):=hs
  cases hs with
  | tree hs=>cases hs
  | bp _ _ _ hr=>exact .cons ⟨g,hr,rfl⟩ .nil
 | @ro T off cs c TT g t n h hg=>
  refine(ZeV (Rq2.ro (T:=T) (off:=off) h hg) nid).weaken fun ρ hs=>⟨hs,?_⟩
  have hs:Rs tab w ok ρ (.bp nid off) (.pointer (some ⟨g,off,none⟩)):=hs
  cases hs with
  | tree hs=>cases hs
  | bp _ _ _ hr=>exact .cons ⟨g,hr,rfl⟩ .nil
 | one h=>
  cases h with
  | @row T own els v n h=>
   refine(ZgX (.row h) nid).weaken fun ρ hs=>⟨hs.1,hs.2⟩
  | @deep T els v n h=>
   refine(ZgX (.deep h) nid).weaken fun ρ hs=>⟨hs.1,hs.2⟩
  | tree h=>
   cases h with
   | agg cs vals hl h=>exact hagg cs vals [] [] (.of_trees hl h)
   | _=>exact hplain fun ρ=>.nil
theorem Zl6 {w:World} {ok:Nat→Prop} {xs:List V} {vs:List Value} {t n:List Nat} (h:RqL (Rq2 tab w ok) xs vs t n):
  ∀nid,Adopted tab w ok nid (ZaC Zb4 nid xs).2 t n fun ρ=>RsL tab w ok ρ (ZaC Zb4 nid xs).1 vs∧LentR tab ρ (Zbs xs vs) (Zkb nid xs):=by
 induction h with
 | nil=>exact fun nid=>.none fun ρ=>⟨.nil, .nil⟩
 | cons h1 _ ih=>
  intro nid
  refine(ZoY h1 nid).append (ih _) fun ρ s1 s2=>⟨RsL.cons s1.1 s2.1,?_⟩
  simp only[Zbs,Zkb]
  exact s1.2.append s2.2
theorem ZjI:∀{xs:List V} {vs:List Value},vs.length=xs.length→(ZaP xs vs).map (fun p=>isDr p.1)=lk1 xs
 | [],[],_=>rfl
 | [],_ :: _,h=>by simp at h
 | _ :: _,[],h=>by simp at h
 | x :: xs,v :: vs,h=>by
  have ih:=ZjI (xs:=xs) (vs:=vs) (by simpa using h)
  cases x <;> first | exact ih | exact congrArg (List.cons _) ih
theorem lk_lent {w:World} {ok:Nat→Prop} {x:V} {v:Value} {t n:List Nat} (h:Rq2 tab w ok x v t n):(Zcc x v).map (fun p=>isDr p.1)=lkOf x:=by
 cases h with
 | agg h=>simpa [Zcc,lkOf] using ZjI h.length
 | nb h hg=>rfl
 | rf h hg=>rfl
 | ro h hg=>rfl
 | one h=>
  cases h with
  | row h=>rfl
  | deep h=>rfl
  | tree h=>
   cases h with
   | agg cs vals hl h=>simpa [Zcc,lkOf] using ZjI hl
   | _=>rfl
theorem lk_lentL {w:World} {ok:Nat→Prop} {xs:List V} {vs:List Value} {t n:List Nat} (h:RqL (Rq2 tab w ok) xs vs t n):(Zbs xs vs).map (fun p=>isDr p.1)=xs.flatMap lkOf:=by
 induction h with
 | nil=>rfl
 | cons h1 _ ih=>simp[Zbs,ih,lk_lent h1]
theorem Zl7 {gone:Nat→Bool} {E:Entry} {M:Mem} (hM:MemOk tab E M) {ps:List (V×Value)} {ids:List Nat} (hl:LentL tab M ps ids):∀{ys:List V} {K log:List Nat},ZeF gone ids M.hp=some ((ys,K),log)→Zd4 (ps.map fun p=>isDr p.1) ys=true→
  ∃t n,Given E M K [] t n fun ok'=>OutL (Rq2 tab M.w ok') ps ys t n:=by
 induction hl with
 | nil=>
  intro ys K log h _
  cases Zm (h:=M.hp) h
  exact⟨[],[], .none fun _ _=>.nil⟩
 | @cons p id ps ids hp _ ih=>
  intro ys K log h hk
  obtain⟨px,pv⟩:=p
  unfold ZeF at h
  cases hgo:gone id with
  | true=>
   rw[hgo] at h
   obtain⟨⟨ys',k'⟩,l3,b3,l3',h7,h8,h9⟩:=Zj h
   cases Zm h8
   cases h9
   simp only[List.map_cons,Zd4,Bool.and_eq_true] at hk
   obtain⟨t2,n2,g2⟩:=ih h7 hk.2
   exact⟨t2,n2,g2.mono fun ok' r2=>(OutL.cons (p:=(px,pv)) (y:=V.dead) (t:=[]) (n:=[]) trivial (.one (.tree (.dead _))) r2:OutL _ _ _ ([]++t2) ([]++n2))⟩
  | false=>
  rw[hgo] at h
  obtain⟨blk,l1,b1,l1',h1,h2,h3⟩:=Zj h
  obtain⟨h1,-⟩:=ZaH h1
  cases h3
  dsimp only at h1
  cases blk with
  | box T cs=>
   obtain⟨⟨y,k⟩,l2,b2,l2',h4,h5,h6⟩:=Zj h2
   obtain⟨⟨ys',k'⟩,l3,b3,l3',h7,h8,h9⟩:=Zj h5
   cases Zm h8
   cases h9;cases h6
   obtain⟨g,c,TT,q1,q2,q3,q4,q5,q6⟩:=hM.box h1
   cases px with
   | rf T0 cs0=>
    obtain⟨g',e1,rfl⟩:=Zhz hp
    have hx:M.Rs tab E (.bp id 0) (.pointer (some ⟨g',0,none⟩)):=.bp id 0 g' e1
    obtain⟨t1,n1,g1⟩:=ZeY hM (.inr rfl) hx h4
    obtain⟨-,T',cs',rfl,-⟩:=Zgi hM hx h4
    simp only[List.map_cons,Zd4,Bool.and_eq_true] at hk
    obtain⟨t2,n2,g2⟩:=ih h7 hk.2
    exact⟨_,_,g1.append hM g2 fun ok' r1 r2=>.cons trivial r1 r2⟩
   | rr T0 o l=>
    obtain⟨ty,e0,e1⟩:=(hp:∃ty,tab T0=some ty∧M.ρ id=some (.row T0 ty.kinds.length l.length pv))
    rw[q1] at e1;cases e1
   | dr T0 l=>
    obtain⟨ty,e0,e1⟩:=(hp:∃ty,tab T0=some ty∧M.ρ id=some (.row T0 ty.kinds.length l.length pv))
    rw[q1] at e1;cases e1
   | _=>exact hp.elim
  | row T own els=>
   obtain⟨⟨ys',k'⟩,l3,b3,l3',h7,h8,h9⟩:=Zj h2
   cases Zm h8
   cases h9
   obtain⟨ty,v,xs,k1,k2,k3,k4,k5,k6,k7⟩:=hM.row h1
   cases px with
   | rf T0 cs0=>
    obtain⟨g',e1,rfl⟩:=Zhz hp
    rw[k2] at e1;cases e1
   | rr T0 o l=>
    obtain⟨ty',e0,e1⟩:=(hp:∃ty,tab T0=some ty∧M.ρ id=some (.row T0 ty.kinds.length l.length pv))
    rw[k2] at e1
    simp only[Option.some.injEq,RB.row.injEq] at e1
    obtain⟨rfl,-,hlen,rfl⟩:=e1
    simp only[List.map_cons,Zd4,Bool.and_eq_true] at hk
    obtain⟨t2,n2,g2⟩:=ih h7 hk.2
    have g1:Given E M [id] [] (M.top id) (M.nest id) fun ok'=>Rq2 tab M.w ok' (.rr T own els) v (M.top id) (M.nest id):=
     ⟨fun g hg=>⟨id,by simp,hg⟩,fun g hg=>by simp[Mem.foot,hg],fun _=>hM.nodup id,fun _ ok' o1 _ _=>by
      have:=Rq1.row (k6.keep o1 (fun _ _=>rfl) fun _ _=>rfl)
      rw[←k5] at this
      exact .one this⟩
    exact⟨_,_,(g1.append hM g2 fun ok' r1 r2=>.cons ⟨rfl,hlen⟩ r1 r2:Given E M ([id]++k') ([]++[]) _ _ _)⟩
   | dr T0 l=>simp[Zd4,isDr] at hk
   | _=>exact hp.elim
  | hrow _ _ _ _ _=>exact(Zo (h:=M.hp) h2).elim
  | grow _ _=>exact(Zo (h:=M.hp) h2).elim
  | drow T els=>
   obtain⟨⟨ys',k'⟩,l3,b3,l3',h7,h8,h9⟩:=Zj h2
   cases Zm h8
   cases h9
   obtain⟨ty,v,xs,F,k1,k2,k3,k4,k5,k6,k7,k8⟩:=hM.drow h1
   cases px with
   | rf T0 cs0=>
    obtain⟨g',e1,rfl⟩:=Zhz hp
    rw[k2] at e1;cases e1
   | dr T0 l=>
    obtain⟨ty',e0,e1⟩:=(hp:∃ty,tab T0=some ty∧M.ρ id=some (.row T0 ty.kinds.length l.length pv))
    rw[k2] at e1
    simp only[Option.some.injEq,RB.row.injEq] at e1
    obtain⟨rfl,-,hlen,rfl⟩:=e1
    simp only[List.map_cons,Zd4,Bool.and_eq_true] at hk
    obtain⟨t2,n2,g2⟩:=ih h7 hk.2
    have g1:Given E M [id] [] (M.top id) (M.nest id) fun ok'=>Rq2 tab M.w ok' (.dr T els) v (M.top id) (M.nest id):=
     ⟨fun g hg=>⟨id,by simp,hg⟩,fun g hg=>by simp[Mem.foot,hg],fun _=>hM.nodup id,fun _ ok' o1 _ _=>by
      have:=Rq1.deep (ok:=ok') (k8.keep (fun _ h=>h.elim) (fun _ h=>h.elim) fun _ _=>rfl)
      rw[k6,k7]
      exact .one this⟩
    exact⟨_,_,(g1.append hM g2 fun ok' r1 r2=>.cons ⟨rfl,hlen⟩ r1 r2:Given E M ([id]++k') ([]++[]) _ _ _)⟩
   | rr T0 o l=>simp[Zd4,isDr] at hk
   | _=>exact hp.elim
end
end Go.Eng
namespace Go.Eng
section
variable {P:Program} {tab:Tab}
theorem ZpG {t:TypeId} {pv v:Value} {w w':World} (h:(Instr.loadAt t pv).run P w = .ok v w'):(do loadVar t (←asAddr pv):Sem Value).run P w = .ok v w':=by
 cases pv with
 | pointer a=>
  cases a with
  | some a=>simpa [Instr.loadAt,Instr.sureAddr,asAddr] using h
  | none=>simp[Instr.loadAt,Instr.sureAddr,stuck] at h
 | _=>simp[Instr.loadAt,Instr.sureAddr,stuck] at h
def Zit (tmps:Array Value):ResultVar→Sem Value
 | .tmp t=>pure (tmps.getD t undef)
 | .cell a t=>do loadVar t (←asAddr (tmps.getD a undef))
theorem Ziu (hT:ZB P tab) {E:Entry} {M:Mem} {s:St} {a:Act} (hM:MemOk tab E M) (hsl:Slots tab E M s.slot a):
  ∀(rs:List ResultVar) {vs:List V} {log:List Nat},ZeJ tab s rs M.hp=some (vs,log)→∃vals,(rs.mapM (Zit a.tmps)).run P M.w = .ok vals M.w∧RsL tab M.w (okS E M) M.ρ vs vals
 | [],vs,log,h=>by
  cases Zm (h:=M.hp) h
  exact⟨[],by simp, .nil⟩
 | r :: rs,vs,log,h=>by
  obtain⟨v,l1,b1,l1',h1,h2,h3⟩:=Zj h
  obtain⟨vs',l2,b2,l2',h4,h5,h6⟩:=Zj h2
  cases Zm h5
  cases h6;cases h3
  obtain⟨vals,r1,r2⟩:=Ziu hT hM hsl rs h4
  have hv:∃val,(Zit a.tmps r).run P M.w = .ok val M.w∧M.Rs tab E v val:=by
   cases r with
   | tmp t=>
    cases Zm (h:=M.hp) h1
    exact⟨_,by simp[Zit,Act.eval],hsl t⟩
   | cell t T=>
    obtain⟨val,k1,k2⟩:=Zhq hT hM (hsl t) h1
    exact⟨val,ZpG k1,k2⟩
  obtain⟨val,k1,k2⟩:=hv
  refine⟨val :: vals,?_,RsL.cons k2 r2⟩
  simp[List.mapM_cons,Sem.run_bind,k1,r1]
def ZfY (vs:List V):V:=match vs with | [v]=>v | vs=>.tup vs
theorem Zjt (hT:ZB P tab) {E:Entry} {M:Mem} {s:St} {a:Act} (hM:MemOk tab E M) (hsl:Slots tab E M s.slot a) {fn:Func} {vs:List V} {log:List Nat}
  (h:ZeJ tab s fn.results.toList M.hp=some (vs,log)):∃val,(results fn a.tmps).run P M.w = .ok val M.w∧M.Rs tab E (ZfY vs) val:=by
 obtain⟨vals,h1,h2⟩:=Ziu hT hM hsl fn.results.toList h
 have hrun:(results fn a.tmps).run P M.w = .ok (if h:vals.toArray.size=1 then vals.toArray[0] else .tuple vals.toArray) M.w:=by
  have hmap:(fn.results.mapM (Zit a.tmps)).run P M.w = .ok vals.toArray M.w:=by
   rw[Array.mapM_eq_mapM_toList,Sem.run_map,h1]
   rfl
  have:results fn a.tmps=(do let vs ←fn.results.mapM (Zit a.tmps);pure (if h:vs.size=1 then vs[0] else .tuple vs)):=by
   unfold results
   congr 1
  rw[this,Sem.run_bind,hmap]
  rfl
 refine⟨_,hrun,?_⟩
 clear h h1 hrun
 match vs,vals,h2 with
 | [v],[val],h2=>simpa [ZfY] using h2.head.1
 | [],[],h2=>exact .tup [] [] h2.1 h2.2
 | v :: v' :: vs,val :: val' :: vals,h2=>
  have:=Rs.tup _ _ h2.1 h2.2
  simpa [ZfY] using this
 | [],_ :: _,h2=>have:=h2.1;simp at this
 | _ :: _,[],h2=>have:=h2.1;simp at this
 | [_],_ :: _ :: _,h2=>have:=h2.1;simp at this
 | _ :: _ :: _,[_],h2=>have:=h2.1;simp at this
theorem ZlH (us:Us):(look us.blks:ZaG)=fun i=>(Z0 us i).map fun b=>some b.blk:=by
 funext i
 induction us with
 | nil=>rfl
 | cons u us ih=>
  simp only[Us.blks,List.map_cons] at ih ⊢
  rw[ZF,ih]
  simp only[Z0]
  by_cases e:i=u.1
  ·simp[e]
  ·rw[if_neg e,if_neg (Ne.symm e)]
theorem entry_ok {tab:Tab} {w:World} {ok:Nat→Prop} {t n:List Nat} {us:Us} (hkeys:(us.map (·.1)).Nodup) (ht:t=us.flatMap (·.2.t)) (hn:n=us.flatMap (·.2.n)) (hnd:(t++n).Nodup)
  (hok:∀g,ok g→g<w.heap.size∧g∉t) (hlt:∀g∈t++n,g<w.heap.size) (M:Mem)
  (hMe:M={ w:=w,ρ:=fun i=>(Z0 us i).map (·.rb),top:=fun i=>((Z0 us i).map (·.t)).getD [],nest:=fun i=>((Z0 us i).map (·.n)).getD [],hp:=look us.blks })
  (hb:∀u∈us,BlkIs tab w ok M.ρ u.2.blk (some u.2.rb) u.2.t u.2.n):
  MemOk tab { W0:=w,okA:=ok,Ft:=t,Fn:=n } M∧∀g,ok g→okS { W0:=w,okA:=ok,Ft:=t,Fn:=n } M g:=by
 have htop:∀id,∀g∈M.top id,g∈t:=by
  intro id g hg
  rw[hMe] at hg
  cases hl:Z0 us id with
  | none=>simp[hl] at hg
  | some b=>simp[hl] at hg;rw[ht];exact(ZhA hl).1 g hg
 have hnest:∀id,∀g∈M.nest id,g∈n:=by
  intro id g hg
  rw[hMe] at hg
  cases hl:Z0 us id with
  | none=>simp[hl] at hg
  | some b=>simp[hl] at hg;rw[hn];exact(ZhA hl).2 g hg
 have hw:M.w=w:=by rw[hMe]
 have hokS:∀g,ok g→okS { W0:=w,okA:=ok,Ft:=t,Fn:=n } M g:=fun g hg=>
  ⟨.inl hg,by rw[hw];exact(hok g hg).1,fun id hid=>(hok g hg).2 (htop id g hid)⟩
 rw[ht,hn] at hnd
 obtain⟨f1,f2⟩:=Zkp hnd
 rw[←ht,←hn] at hnd
 have hhp:M.hp=fun i=>(Z0 us i).map fun b=>some b.blk:=by rw[hMe];exact ZlH us
 have hget:∀id,(Z0 us id=none∧M.ρ id=none∧M.top id=[]∧M.nest id=[])∨∃b,Z0 us id=some b∧M.ρ id=some b.rb∧M.top id=b.t∧M.nest id=b.n:=fun id=>by
  cases hl:Z0 us id with
  | none=>exact .inl ⟨rfl,by rw[hMe];simp[hl],by rw[hMe];simp[hl],by rw[hMe];simp[hl]⟩
  | some b=>exact .inr ⟨b,rfl,by rw[hMe];simp[hl],by rw[hMe];simp[hl],by rw[hMe];simp[hl]⟩
 refine⟨⟨fun id b h=>?_,fun id h=>?_,fun id h=>?_,fun id=>?_,fun id id' hne g hg hg'=>?_,fun id g hg=>?_,fun id g hg=>?_,?_⟩,hokS⟩
 ·rw[hhp] at h
  rcases hget id with⟨e,_⟩ | ⟨b',e,e1,e2,e3⟩
  ·simp[e] at h
  ·simp[e] at h
   subst h
   rw[e1,e2,e3,hw]
   exact(hb _ (Zdu e)).keep (fun _ _ h=>h) hokS (fun _ _=>rfl) fun _ _=>rfl
 ·rcases hget id with⟨_,e⟩ | ⟨b',e,e1,e2,e3⟩
  ·exact e
  ·rw[hhp] at h;simp[e] at h
 ·rcases hget id with⟨_,e⟩ | ⟨b',e,e1,e2,e3⟩
  ·exact e.2
  ·rw[hhp] at h;simp[e] at h
 ·rcases hget id with⟨_,_,e2,e3⟩ | ⟨b',e,e1,e2,e3⟩
  ·rw[e2,e3];simp
  ·rw[e2,e3];exact f1 _ (Zdu e)
 ·rcases hget id with⟨_,_,e2,e3⟩ | ⟨b,e,e1,e2,e3⟩
  ·rw[e2,e3] at hg;simp at hg
  ·rcases hget id' with⟨_,_,e2',e3'⟩ | ⟨b',e',e1',e2',e3'⟩
   ·rw[e2',e3'] at hg';simp at hg'
   ·rw[e2,e3] at hg;rw[e2',e3'] at hg'
    exact f2 id id' b b' e e' hne g hg hg'
 ·have hmem:g∈t++n:=by
   rcases List.mem_append.1 hg with hg | hg
   ·exact List.mem_append_left _ (htop id g hg)
   ·exact List.mem_append_right _ (hnest id g hg)
  exact⟨.inl hmem,by rw[hw];exact hlt g hmem⟩
 ·exact .inl (htop id g hg)
 ·rw[hw];exact .refl _ _
theorem Zfa:∀(vs:List V) (n t:Nat),(look (Zcq n vs) t).getD .dead=if n≤t then vs.getD (t-n) .dead else .dead
 | [],n,t=>by simp[Zcq,Zgd]
 | v :: vs,n,t=>by
  simp only[Zcq]
  rw[ZF]
  by_cases h1:t=n
  ·subst h1;simp
  ·rw[if_neg h1,Zfa vs (n+1) t]
   by_cases h2:n≤t
   ·have:t-n=(t-(n+1))+1:=by omega
    rw[if_pos (by omega),if_pos h2,this];simp
   ·rw[if_neg (by omega),if_neg h2]
theorem kept_inv {ks:List Bool} {o:Option (V×List V)} {r:V×List V} (h:kept ks o=some r):o=some r∧Zd4 ks r.2=true:=by
 cases o with
 | none=>cases h
 | some x=>
  simp only[kept] at h
  cases hk:Zd4 ks x.2 with
  | false=>rw[hk] at h;cases h
  | true=>rw[hk] at h;cases h;exact⟨rfl,hk⟩
theorem ZoZ (hT:ZB P tab) {E:Entry} {N:Nat} {ps:List (V×Value)} {M:Mem} {s:St} {a:Act} (h:Rel tab E N ps M s a) (t:Nat):∃M',M'.w=M.w∧Rel tab E N ps M' (cutS s t) a:=by
 unfold cutS
 split
 ·rename_i id T n hs
  have:=ZgW hT h ⟨t,none,true⟩
  unfold Zka at this
  simp only[hs] at this
  exact this
 ·exact⟨M,rfl,h⟩
theorem Ziv (hT:ZB P tab) {E:Entry} {N:Nat} {ps:List (V×Value)} {a:Act}:∀(ts:List Nat) {M:Mem} {s:St},Rel tab E N ps M s a→∃M',M'.w=M.w∧Rel tab E N ps M' (ZeR s ts) a
 | [],M,s,h=>⟨M,rfl,h⟩
 | t :: ts,M,s,h=>by
  obtain⟨M1,h1,h2⟩:=ZoZ hT h t
  obtain⟨M2,h3,h4⟩:=Ziv hT ts h2
  exact⟨M2,h3.trans h1,h4⟩
theorem Zju (hT:ZB P tab) {f:FuncId} {fn:Func} {c:Code} (hf:P.funcs[f]? = some fn) (hb:fn.body=some c) {args:List V} (hlen:args.length≤fn.ntmps) (cuts:List Nat) {r:V×List V}
  (hcode:∀(E:Entry) (ps:List (V×Value)),∃e s',(match e with | .exit _=>none | _=>kept (args.flatMap lkOf) (Zgf tab fn.results.toList (ZeR (Zef tab s' s'.lent) cuts)))=some r∧
   ∀(M:Mem) (a:Act),Rel tab E fn.ntmps ps M (ZiR args) a→∀Q:Exit→Act→World→Prop,(∀M' a',Rel tab E fn.ntmps ps M' s' a'→Q (ZfA e) a' M'.w)→c.wp P Q a M.w):SumOk P tab f args r:=by
 intro w ok vals t n hr hnd hok hlt
 obtain⟨Bs,b0,b1,b2,b3,b4⟩:=(Zl6 hr 0).numB
 obtain⟨e,s',hk,hw⟩:=hcode { W0:=w,okA:=ok,Ft:=t,Fn:=n } (Zbs args vals)
 have hvl:=hr.length
 have hu:=Zhy 0 Bs
 have hρ0:∀u∈numB 0 Bs,(fun i=>(Z0 (numB 0 Bs) i).map (·.rb)) u.1=some u.2.rb:=fun u hu'=>by simp[Zmv hu hu']
 obtain⟨⟨s1,s2⟩,s3⟩:=b4 (fun i=>(Z0 (numB 0 Bs) i).map (·.rb)) hρ0
 obtain⟨m1,m2⟩:=entry_ok hu b2 b3 hnd hok hlt _ rfl s3
 generalize hM0:({ w:=w,ρ:=fun i=>(Z0 (numB 0 Bs) i).map (·.rb),top:=fun i=>((Z0 (numB 0 Bs) i).map (·.t)).getD [],nest:=fun i=>((Z0 (numB 0 Bs) i).map (·.n)).getD [],hp:=look (Us.blks (numB 0 Bs)) }:Mem)=M0 at m1 m2
 have hM0w:M0.w=w:=by rw[←hM0]
 have hM0ρ:M0.ρ=fun i=>(Z0 (numB 0 Bs) i).map (·.rb):=by rw[←hM0]
 have hM0hp:M0.hp=look (Us.blks (numB 0 Bs)):=by rw[←hM0]
 refine calls_of_wp hf hb ?_
 have hsz:(vals.toArray++Array.replicate (fn.ntmps-vals.toArray.size) undef).size=fn.ntmps:=by simp;omega
 have hrel:Rel tab { W0:=w,okA:=ok,Ft:=t,Fn:=n } fn.ntmps (Zbs args vals) M0 (ZiR args) { tmps:=vals.toArray++Array.replicate (fn.ntmps-vals.toArray.size) undef,defers:=[] }:=by
  refine⟨⟨m1, .refl _ _,?_,fun u=>?_⟩,LentR.of (by rw[hM0ρ];exact s2),fun id hid=>?_,hsz,rfl⟩
  ·rw[hM0hp,←b1];rfl
  ·have:(ZiR args).F.sl u=(ZaC Zb4 0 args).1.getD u .dead:=by
    show(look (Zcq 0 _) u).getD .dead=_
    rw[Zfa];simp
   rw[this]
   by_cases hu':u<(ZaC Zb4 0 args).1.length
   ·have hv:=s1.2 u hu'
    rw[←hM0ρ] at hv
    have hv':=hv.mono (ok':=okS { W0:=w,okA:=ok,Ft:=t,Fn:=n } M0) (w':=M0.w) (fun _ _ h=>h) m2 fun _ _=>by rw[hM0w]
    have he:({ tmps:=vals.toArray++Array.replicate (fn.ntmps-vals.toArray.size) undef,defers:=[] }:Act).eval (.tmp u)=vals.getD u undef:=by
     have hl:u<vals.length:=by rw[s1.1];exact hu'
     simp[Act.eval,Array.getElem?_append,hl,List.getD]
    rw[he];exact hv'
   ·have:(ZaC Zb4 0 args).1.getD u .dead = .dead:=by simp[List.getD,List.getElem?_eq_none (Nat.le_of_not_lt hu')]
    rw[this];exact .tree (.dead _)
  ·show look (ZcU 0 _) id=none
   have hid':(ZaC Zb4 0 args).2.length≤id:=hid
   rw[b1,ZlH]
   simp only[Option.map_eq_none_iff]
   rw[lookU_none]
   intro hm
   obtain⟨u,hu',e⟩:=List.mem_map.1 hm
   have:=Zd7 u hu'
   omega
 have main:=hw M0 _ hrel
 rw[hM0w] at main
 refine main _ fun M1 a' hR1=>?_
 obtain⟨M1',hw2',hR1'⟩:=Zh1 hT s'.lent hR1
 obtain⟨M',hw2'',hR'⟩:=Ziv hT cuts hR1'
 have hw2:=hw2''.trans hw2'
 rw[←hw2]
 have hfin:(∀id,e≠.exit id)→kept (args.flatMap lkOf) (Zgf tab fn.results.toList (ZeR (Zef tab s' s'.lent) cuts))=some r:=fun hne=>by
  cases e with
  | exit id=>exact absurd rfl (hne id)
  | normal=>exact hk
  | ret=>exact hk
 have hpost:kept (args.flatMap lkOf) (Zgf tab fn.results.toList (ZeR (Zef tab s' s'.lent) cuts))=some r→a'.defers=[]∧∃v,(results fn a'.tmps).run P M'.w = .ok v M'.w∧
   (fun e w'=>∃val,e=Ending.returned val∧Zkl tab w ok args vals t n r val w') (.returned v) M'.w:=by
  intro hfi
  obtain⟨hfi,hal⟩:=kept_inv hfi
  refine⟨hR'.defers,?_⟩
  unfold Zgf at hfi
  split at hfi
  ·rename_i r' log hq
   cases hfi
   rw[show(ZeR (Zef tab s' s'.lent) cuts).heap=M'.hp from hR'.rel.hp.symm] at hq
   obtain⟨vs,l1,x1,l1',h1,h2,h3⟩:=Zj hq
   obtain⟨⟨y,K1⟩,l2,x2,l2',h4,h5,h6⟩:=Zj h2
   obtain⟨⟨ys,K2⟩,l3,x3,l3',h7,h8,h9⟩:=Zj h5
   obtain⟨h10,h11⟩:=Zw h8
   cases Zm h11
   cases h9;cases h6;cases h3
   obtain⟨val,hrun,hval⟩:=Zjt hT hR'.rel.mem hR'.rel.slots h1
   refine⟨val,hrun,val,rfl,?_⟩
   obtain⟨rt,rn,g1⟩:=Zmt hR'.rel.mem hval h4
   obtain⟨ot,on,g2⟩:=Zl7 hR'.rel.mem hR'.lent h7 (by rw[lk_lentL hr];exact hal)
   have g:=g2.append hR'.rel.mem g1 (Q:=fun ok'=>Rq3 tab M'.w ok' y val rt rn∧OutL (Rq2 tab M'.w ok') (Zbs args vals) ys ot on) fun ok' q2 q1=>⟨q1,q2⟩
   have hKn:(K2++K1).Nodup:=(List.perm_append_comm.nodup_iff).1 (ZcR h10)
   have hmem:=hR'.rel.mem
   have hmine:∀k g,g∈M'.top k++M'.nest k→(g∈t++n∨w.heap.size≤g)∧g<M'.w.heap.size:=fun k g hg=>hmem.mine k g hg
   have o1:∀g',okS { W0:=w,okA:=ok,Ft:=t,Fn:=n } M' g'→(ok g'∨g'∈t++n∨w.heap.size≤g')∧g'<M'.w.heap.size∧g'∉ot++rt:=fun g' hg'=>by
    refine⟨hg'.1,hg'.2.1,fun hgt=>?_⟩
    obtain⟨k,_,hgk⟩:=g.top g' hgt
    exact hg'.2.2 k hgk
   have o2:∀k∈K2++K1,∀g'∈M'.top k,g'∉ot++rt→(ok g'∨g'∈t++n∨w.heap.size≤g')∧g'<M'.w.heap.size∧g'∉ot++rt:=fun k _ g' hg' hgt=>
    ⟨.inr (hmine k g' (List.mem_append_left _ hg')).1,(hmine k g' (List.mem_append_left _ hg')).2,hgt⟩
   obtain⟨q1,q2⟩:=g.is hKn (fun g=>(ok g∨g∈t++n∨w.heap.size≤g)∧g<M'.w.heap.size∧g∉ot++rt) o1 o2 (by simp)
   refine⟨rt,rn,ot,on,q1,q2,g.nodup hKn,fun g' hg'=>?_,fun g' hg'=>?_,fun g' hg'=>?_,hmem.kept⟩
   ·obtain⟨k,_,hgk⟩:=g.top g' hg'
    exact hmem.mineT k g' hgk
   ·obtain⟨k,_,hgk⟩:=Mem.mem_foot.1 (g.nest g' hg')
    exact(hmine k g' hgk).1
   ·obtain⟨k,_,hgk⟩:=Mem.mem_foot.1 (g.foot g' hg')
    exact(hmine k g' hgk).2
  ·cases hfi
 cases e with
 | normal=>exact hpost (hfin (by simp))
 | ret=>exact hpost (hfin (by simp))
 | exit id=>cases hk
theorem fn_sound {cfg:Cfg} (hT:ZB P cfg.tab) (hS:Zbk P cfg.tab cfg.sums) (hmix:P.follows .mixedOrders=true) (L:Loops) {f:FuncId} {fn:Func} {c:Code} (hf:P.funcs[f]? = some fn) (hb:fn.body=some c)
  (hc:ZaY fn.ntmps c=true) (hL:ZC cfg L c) {args:List V} (hlen:args.length≤fn.ntmps) {r:V×List V} (h:Zem cfg L fn args=some r):SumOk P cfg.tab f args r:=by
 unfold Zem at h
 rw[hb] at h
 exact Zju hT hf hb hlen L.cuts fun E ps=>Zdb hT hS hmix L E fn.ntmps ps c hc hL _ _ _ _ h
end
end Go.Eng
namespace Go.Eng
def zeroB:Ck→Value→Bool
 | .int k, .int k' n=>decide (k'=k)&&decide (n=0)
 | .bool, .bool b=>!b
 | .str, .string s=>s.data.toList.isEmpty
 | .sl _, .slice none 0 0=>true
 | .ptr, .pointer none=>true
 | .fn, .nilFunc=>true
 | .other, .nilIface=>true
 | _,_=>false
theorem Zo0 {k:Ck} {v:Value} (h:zeroB k v=true):v=ZbY k:=by
 unfold zeroB at h
 split at h
 ·simp at h;obtain⟨rfl,rfl⟩:=h;rfl
 ·simp at h;subst h;rfl
 ·rename_i s
  obtain⟨⟨l⟩⟩:=s
  cases l with
  | nil=>rfl
  | cons _ _=>simp at h
 all_goals first | rfl | (cases h)
def ZkA:List Ck→List Value→Bool
 | [],[]=>true
 | k :: ks,v :: vs=>zeroB k v&&ZkA ks vs
 | _,_=>false
theorem Zjv:∀{ks:List Ck} {vs:List Value},ZkA ks vs=true→vs=ks.map ZbY
 | [],[],_=>rfl
 | k :: ks,v :: vs,h=>by
  simp only[ZkA,Bool.and_eq_true] at h
  rw[List.map_cons,Zo0 h.1,Zjv h.2]
 | [],_ :: _,h=>by cases h
 | _ :: _,[],h=>by cases h
def flatB (d:TypeDesc) (ks:List Ck) (el:Option TypeId):Bool:=
 match d,ks with
 | .int k,[.int k']=>decide (k=k')&&el.isNone
 | .string,[.str]=>el.isNone
 | .bool,[.bool]=>el.isNone
 | .slice e,[.sl e']=>decide (e=e')&&decide (el=some e)
 | .pointer _,[.ptr]=>el.isNone
 | .func ..,[.fn]=>el.isNone
 | _,_=>false
def tyOkB (P:Program) (T:TypeId) (ty:Ty):Bool:=
 match P.info? T with
 | none=>false
 | some i=>match i.zero with
  | none=>false
  | some z=>decide (i.size=ty.kinds.length)&&(decide (i.bytes=ty.bytes)&&(ZkA ty.kinds z.cells.toList&&(decide (0<ty.kinds.length) &&
   match P.underlying T with
   | some (.struct fs)=>ty.agg&&((match z with | .agg _=>true | _=>false)&&(decide (fs.toList.map (fun f=>(f.offset,f.type))=ty.fields)&&(fs.toList.all (fun f=>(P.info? f.type).isSome)&&(ty.elem.isNone&&((!eqTy ty||(!P.stoodInHeld T&&(!P.eqGuardType P.depth T&&Zfj P (P.fieldsOf T).toList ty.kinds 0)))&&(!ZjX ty||(!P.stoodInHeld T&&(!P.eqGuardType P.depth T&&ZiS P (P.fieldsOf T).toList ty.kinds))))))))
   | some d=>!ty.agg&&(ty.fields.isEmpty&&flatB d ty.kinds ty.elem)
   | none=>false)))
theorem Zo1 {P:Program} {tab:Tab} {T:TypeId} {ty:Ty} (h:tyOkB P T ty=true):TyOk P tab T ty:=by
 unfold tyOkB at h
 split at h
 ·cases h
 ·rename_i i hi
  split at h
  ·cases h
  ·rename_i z hz
   simp only[Bool.and_eq_true,decide_eq_true_eq] at h
   obtain⟨h1,h2,h3,h4,h5⟩:=h
   have h3:=Zjv h3
   split at h5
   ·rename_i fs hu
    simp only[Bool.and_eq_true,decide_eq_true_eq,List.all_eq_true] at h5
    obtain⟨ha,hzz,hf,hinf,hel,heq,heqn⟩:=h5
    have hz2:z = .agg z.cells:=by
     cases z <;> first | rfl | (simp at hzz)
    refine⟨⟨i,z,hi,h1,h2,hz,h3,fun _=>hz2⟩,h4,fun _=>⟨fs,hu,hf,fun f hfm=>Option.isSome_iff_exists.1 (hinf f hfm)⟩,fun h=>?_,fun e he=>?_,fun _ h=>?_,fun h=>?_,fun h=>?_,fun _ h=>?_,fun h=>?_,fun h=>?_⟩
    rotate_right
    ·rw[h] at heqn
     simpa using heqn
    rotate_right
    ·rw[h] at heq
     simpa using heq
    ·rw[ha] at h;cases h
    ·rw[he] at hel;cases hel
    all_goals (rw[ha] at h;cases h)
   ·rename_i d hns hu
    simp only[Bool.and_eq_true,Bool.not_eq_true',List.isEmpty_iff] at h5
    obtain⟨ha,hf,hfl⟩:=h5
    have hfl':=hfl
    unfold flatB at hfl
    have hlen:ty.kinds.length=1∧(∀fs,d≠.struct fs)∧(∀n e,d≠.array n e):=by
     split at hfl <;> first | (cases hfl;done) | (rename_i hk;simp[hk])
    refine⟨⟨i,z,hi,h1,h2,hz,h3,fun h=>(by rw[ha] at h;cases h)⟩,h4,fun h=>(by rw[ha] at h;cases h),fun _=>⟨hlen.1,hf,d,hu,hlen.2.1,hlen.2.2⟩,fun e he=>?_,fun k _ hk=>?_,fun _ hk=>?_,fun _ hk=>?_,fun e _ hk=>?_,fun h=>(by unfold eqTy at h;rw[ha] at h;cases h),fun h=>(by unfold ZjX at h;rw[ha] at h;cases h)⟩
    ·split at hfl <;> simp_all
    ·split at hfl <;> simp_all
    ·split at hfl <;> simp_all
    ·split at hfl <;> simp_all
    ·split at hfl <;> simp_all
   ·cases h5
def tabOf (ch:List (List (Option Ty))):Tab:=fun T=>(ch.getD (T / 16) []).getD (T % 16) none
def tabB (P:Program) (ch:List (List (Option Ty))):Bool:=(List.range (16*ch.length)).all fun T=>match tabOf ch T with | some ty=>tyOkB P T ty | none=>true
theorem ZpH {P:Program} {ch:List (List (Option Ty))} (h:tabB P ch=true):ZB P (tabOf ch):=by
 intro T ty hT
 have hlt:T<16*ch.length:=by
  rcases Nat.lt_or_ge T (16*ch.length) with h | h
  ·exact h
  ·exfalso
   have:ch.length≤T / 16:=by omega
   unfold tabOf at hT
   rw[show ch.getD (T / 16) []=[] from by simp[List.getD,List.getElem?_eq_none this]] at hT
   simp at hT
 unfold tabB at h
 rw[List.all_eq_true] at h
 have:=h T (List.mem_range.2 hlt)
 rw[hT] at this
 exact Zo1 this
theorem look_mem {α:Type} {l:List (Nat×α)} {i:Nat} {x:α} (h:look l i=some x):(i,x)∈l:=by
 induction l with
 | nil=>simp[Zgd] at h
 | cons p l ih=>
  rw[ZF] at h
  split at h
  ·rename_i e
   cases h;subst e;simp
  ·exact List.mem_cons_of_mem _ (ih h)
def Zll (P:Program) (f:FuncId):Bool:=match P.funcs[f]? with
 | some fn=>!(fn.name == "runtime.NumGoroutine")&&fn.body.isSome
 | none=>false
theorem ZmJ {P:Program} {f:FuncId} (h:Zll P f=true):Zfy P f:=by
 unfold Zll at h
 split at h
 ·rename_i fn hf
  simp only[Bool.and_eq_true,Bool.not_eq_true'] at h
  exact⟨fn,hf,h.1,by cases hb:fn.body <;> simp_all⟩
 ·cases h
end Go.Eng
namespace Go.Eng
def ZM (fn:Func):Code:=fn.body.getD .skip
def fnOk (fn:Func):Bool:=fn.body.isSome&&ZaY fn.ntmps (ZM fn)
def ZcS:Code→List Code
 | .seq a b=>ZcS a++ZcS b
 | .cond _ a b=>ZcS a++ZcS b
 | .block _ a=>ZcS a
 | .loop a=>a :: ZcS a
 | _=>[]
theorem ZdA {cfg:Cfg} {L:Loops}:∀(c:Code),(∀a∈ZcS c,∀s o r,L.run (Zbo a) s=some o→o.get=some r→∃n,ZJ cfg L a n s=some r)→ZC cfg L c
 | .seq a b,h=>⟨ZdA a fun x hx=>h x (List.mem_append_left _ hx),ZdA b fun x hx=>h x (List.mem_append_right _ hx)⟩
 | .cond _ a b,h=>⟨ZdA a fun x hx=>h x (List.mem_append_left _ hx),ZdA b fun x hx=>h x (List.mem_append_right _ hx)⟩
 | .block _ a,h=>ZdA a h
 | .loop a,h=>⟨h a (by simp[ZcS]),ZdA a fun x hx=>h x (by simp[ZcS,hx])⟩
 | .skip,_=>trivial
 | .region _ _ _,_=>trivial
 | .rangeFunc _ _ _ _,_=>trivial
 | .exit _,_=>trivial
 | .scope _,_=>trivial
 | .label _,_=>trivial
 | .goto _,_=>trivial
 | .ret,_=>trivial
 | .refuse _,_=>trivial
structure Base (P:Program) (tab:Tab):Prop where
 tab:ZB P tab
 mixed:P.follows .mixedOrders=true
theorem Base.fn {P:Program} {cfg:Cfg} (hB:Base P cfg.tab) (hS:Zbk P cfg.tab cfg.sums) {f:FuncId} {fn:Func} (hf:P.funcs[f]? = some fn) (hok:fnOk fn=true) {L:Loops} (hL:ZC cfg L (ZM fn))
  {args:List V} (hlen:Nat.ble args.length fn.ntmps=true) {r:V×List V} (h:Zem cfg L fn args=some r):SumOk P cfg.tab f args r:=by
 simp only[fnOk,Bool.and_eq_true] at hok
 have hb:fn.body=some (ZM fn):=by
  unfold ZM
  cases hq:fn.body with
  | none=>rw[hq] at hok;simp at hok
  | some c=>rfl
 exact fn_sound hB.tab hS hB.mixed L hf hb hok.2 hL (Nat.le_of_ble_eq_true hlen) h
theorem Zcr {P:Program} {f:FuncId} {fn:Func} (hf:P.funcs[f]? = some fn) (h:(!(fn.name == "runtime.NumGoroutine")&&fn.body.isSome)=true):Zfy P f:=by
 refine ZmJ ?_
 unfold Zll
 rw[hf];exact h
end Go.Eng
namespace Go.Eng
section
variable {P:Program} {tab:Tab}
inductive S1 where
 | int (k:IntKind) | bool | str | inl (T:TypeId) | rr (T:TypeId) (own:Bool)
 | nil (T:TypeId) | sl (id:Nat) (T:TypeId) | slo (id:Nat) (T:TypeId) | sll (id:Nat) (T:TypeId)
 | bp (id off:Nat) | rp (id off:Nat) | dead | dr (T:TypeId)
 deriving Inhabited
def wk1:S1→V→V
 | .rr T own, .nil _=>.rr T own []
 | .rr T false, .rr T' o l=>bif Nat.beq T T' then .rr T false l else .rr T' o l
 | .inl T, .nil _=>.inl T []
 | .inl T, .rr T' o l=>bif Nat.beq T T' then .inl T l else .rr T' o l
 | _,v=>v
def wkL:List S1→List V→List V
 | s :: ss,v :: vs=>wk1 s v :: wkL ss vs
 | _,vs=>vs
def wkV (ss:List S1):V→V
 | .agg cs=>.agg (wkL ss cs)
 | .nb T cs=>.nb T (wkL ss cs)
 | .rf T cs=>.rf T (wkL ss cs)
 | .ro T off cs=>.ro T off cs
 | v=>match ss with
  | s :: _=>wk1 s v
  | []=>v
def wkVs:List (List S1)→List V→List V
 | s :: ss,v :: vs=>wkV s v :: wkVs ss vs
 | _,vs=>vs
def wkR (ss:List (List S1)):V→V
 | .tup vs=>.tup (wkVs ss vs)
 | v=>match ss with
  | s :: _=>wkV s v
  | []=>v
def wkO (ss:List S1):V→V
 | .rf T cs=>.rf T (wkL ss cs)
 | v=>v
def wkOs:List (List S1)→List V→List V
 | s :: ss,v :: vs=>wkO s v :: wkOs ss vs
 | _,vs=>vs
def wkF (ss os:List (List S1)) (r:V×List V):V×List V:=(wkR ss r.1,wkOs os r.2)
def ZcL (tab:Tab):S1→Bool
 | .rr T _=>(tab T).isSome
 | .inl T=>(tab T).isSome
 | _=>true
def Weak (R:(Nat→Prop)→V→Value→List Nat→List Nat→Prop) (ok:Nat→Prop) (y:V) (v:Value) (t n:List Nat):Prop:=
 ∃t' n',t'.Sublist t∧n'.Sublist n∧∀ok':Nat→Prop,(∀g,ok g→ok' g)→(∀g∈t++n,g∉t'→ok' g)→R ok' y v t' n'
theorem Weak.same {R:(Nat→Prop)→V→Value→List Nat→List Nat→Prop} {ok:Nat→Prop} {y:V} {v:Value} {t n:List Nat} (h:∀ok':Nat→Prop,(∀g,ok g→ok' g)→R ok' y v t n):Weak R ok y v t n:=
 ⟨t,n, .refl _, .refl _,fun ok' h1 _=>h ok' h1⟩
theorem wk1_rq {w:World} {ok:Nat→Prop} {s:S1} (hs:ZcL tab s=true) {x:V} {v:Value} {t n:List Nat} (h:Rq1 tab w ok x v t n) (hnd:(t++n).Nodup):Weak (Rq1 tab w) ok (wk1 s x) v t n:=by
 have hsame:Weak (Rq1 tab w) ok x v t n:=.same fun ok' h1=>h.keep h1
 unfold wk1
 split
 ·rename_i T own T'
  cases h with | tree h=>
  cases h with | nil _ a=>
  obtain⟨ty,hty⟩:=Option.isSome_iff_exists.1 (by simpa [ZcL] using hs:(tab T).isSome=true)
  refine .same fun ok' _=>?_
  have:Rq1 tab w ok' (.rr T own []) (.slice a 0 0) (Zr (.slice a 0 0)) []:=
   .row ⟨ty,[],hty,⟨by simp, .inl ⟨a,rfl,rfl⟩⟩,by simp,by
    cases own
    ·exact .inr ⟨rfl,rfl,by simp⟩
    ·exact .inl ⟨rfl,fun _ _=>[],by simp[ZD],by simp⟩⟩
  have e:Zr (.slice a 0 0)=[]:=by cases a <;> rfl
  rw[e] at this;exact this
 ·rename_i T T' o l
  cases hb:Nat.beq T T' with
  | false=>exact hsame
  | true=>
   obtain rfl:=Nat.eq_of_beq_eq_true hb
   cases h with
   | tree h=>cases h
   | row h=>
   obtain⟨ty,xs,h1,h2,h3,h4⟩:=h
   rcases h4 with⟨ho,F,rfl,h4⟩ | ⟨ho,rfl,h4⟩
   ·refine⟨Zr v,[], .refl _,List.nil_sublist _,fun ok' k1 k2=>.row ⟨ty,xs,h1,h2,h3, .inr ⟨rfl,rfl,fun i j hi hj=>?_⟩⟩⟩
    refine(h4 i j hi hj).tree fun g hg=>?_
    have hgn:g∈ZD l.length ty.kinds.length F:=mem_flatF.2 ⟨i,hi,j,hj,hg⟩
    exact k2 g (List.mem_append_right _ hgn) fun hgt=>(List.nodup_append.1 hnd).2.2 g hgt g hgn rfl
   ·exact .same fun ok' k1=>.row ⟨ty,xs,h1,h2,h3, .inr ⟨rfl,rfl,fun i j hi hj=>(h4 i j hi hj).keep k1 fun _ _=>rfl⟩⟩
 ·rename_i T T'
  cases h with | tree h=>
  cases h with | nil _ a=>
  obtain⟨ty,hty⟩:=Option.isSome_iff_exists.1 (by simpa [ZcL] using hs:(tab T).isSome=true)
  exact .same fun ok' _=>.tree (.inl T [] ty a 0 0 0 (fun _ _=>undef) hty (by simp) (by simp) (by simp) (by simp) (by simp))
 ·rename_i T T' o l
  cases hb:Nat.beq T T' with
  | false=>exact hsame
  | true=>
   obtain rfl:=Nat.eq_of_beq_eq_true hb
   cases h with
   | tree h=>cases h
   | row h=>
   exact⟨[],[],List.nil_sublist _,List.nil_sublist _,fun ok' k1 k2=>.tree (h.tree k1 fun g hg=>k2 g hg (by simp))⟩
 ·exact hsame
theorem Ziw {t1 n1 t2 n2 s2:List Nat} (hnd:((t1++t2)++(n1++n2)).Nodup) (hs:s2.Sublist t2) {g:Nat} (hg:g∈t1++n1):g∉s2:=by
 intro h2
 have h2:=hs.mem h2
 obtain⟨h3,h4,h5⟩:=List.nodup_append.1 hnd
 rcases List.mem_append.1 hg with hg | hg
 ·exact(List.nodup_append.1 h3).2.2 g hg g h2 rfl
 ·exact h5 g (List.mem_append_right _ h2) g (List.mem_append_left _ hg) rfl
theorem ZhH {t1 n1 t2 n2 s1:List Nat} (hnd:((t1++t2)++(n1++n2)).Nodup) (hs:s1.Sublist t1) {g:Nat} (hg:g∈t2++n2):g∉s1:=by
 intro h2
 have h2:=hs.mem h2
 obtain⟨h3,h4,h5⟩:=List.nodup_append.1 hnd
 rcases List.mem_append.1 hg with hg | hg
 ·exact(List.nodup_append.1 h3).2.2 g h2 g hg rfl
 ·exact h5 g (List.mem_append_left _ h2) g (List.mem_append_right _ hg) rfl
theorem Zdc {t1 n1 t2 n2:List Nat} (hnd:((t1++t2)++(n1++n2)).Nodup):(t1++n1).Nodup∧(t2++n2).Nodup:=by
 obtain⟨h3,h4,h5⟩:=List.nodup_append.1 hnd
 obtain⟨a1,a2,a3⟩:=List.nodup_append.1 h3
 obtain⟨b1,b2,b3⟩:=List.nodup_append.1 h4
 exact⟨List.nodup_append.2 ⟨a1,b1,fun x hx y hy=>h5 x (List.mem_append_left _ hx) y (List.mem_append_left _ hy)⟩,List.nodup_append.2 ⟨a2,b2,fun x hx y hy=>h5 x (List.mem_append_right _ hx) y (List.mem_append_right _ hy)⟩⟩
theorem ZgY {t1 n1 t2 n2:List Nat} {g:Nat} (h:g∈t1++n1):g∈(t1++t2)++(n1++n2):=by
 simp only[List.mem_append] at h ⊢;rcases h with h | h <;> simp[h]
theorem Zgm {t1 n1 t2 n2:List Nat} {g:Nat} (h:g∈t2++n2):g∈(t1++t2)++(n1++n2):=by
 simp only[List.mem_append] at h ⊢;rcases h with h | h <;> simp[h]
def WeakL (R:(Nat→Prop)→V→Value→List Nat→List Nat→Prop) (ok:Nat→Prop) (ys:List V) (vs:List Value) (t n:List Nat):Prop:=
 ∃t' n',t'.Sublist t∧n'.Sublist n∧∀ok':Nat→Prop,(∀g,ok g→ok' g)→(∀g∈t++n,g∉t'→ok' g)→RqL (R ok') ys vs t' n'
theorem WeakL.cons {R:(Nat→Prop)→V→Value→List Nat→List Nat→Prop} {ok:Nat→Prop} {y:V} {v:Value} {t1 n1:List Nat} {ys:List V} {vs:List Value} {t2 n2:List Nat}
  (h1:Weak R ok y v t1 n1) (h2:WeakL R ok ys vs t2 n2) (hnd:((t1++t2)++(n1++n2)).Nodup):WeakL R ok (y :: ys) (v :: vs) (t1++t2) (n1++n2):=by
 obtain⟨s1,m1,a1,a2,a3⟩:=h1
 obtain⟨s2,m2,b1,b2,b3⟩:=h2
 refine⟨s1++s2,m1++m2,a1.append b1,a2.append b2,fun ok' k1 k2=>.cons (a3 ok' k1 fun g hg hn=>?_) (b3 ok' k1 fun g hg hn=>?_)⟩
 ·exact k2 g (ZgY hg) fun h=>(List.mem_append.1 h).elim hn (Ziw hnd b1 hg)
 ·exact k2 g (Zgm hg) fun h=>(List.mem_append.1 h).elim (ZhH hnd a1 hg) hn
theorem wkL_rq {w:World} {ok:Nat→Prop} {xs:List V} {vs:List Value} {t n:List Nat} (h:RqL (Rq1 tab w ok) xs vs t n):∀{ss:List S1},(ss.all (ZcL tab))=true→(t++n).Nodup→WeakL (Rq1 tab w) ok (wkL ss xs) vs t n:=by
 have hsame:∀{xs:List V} {vs:List Value} {t n:List Nat},RqL (Rq1 tab w ok) xs vs t n→WeakL (Rq1 tab w) ok xs vs t n:=fun {xs vs t n} h=>⟨t,n, .refl _, .refl _,fun ok' k1 _=>h.mono fun _ _ _ _ h=>h.keep k1⟩
 induction h with
 | nil=>intro ss _ _;cases ss <;> exact hsame .nil
 | cons h1 h2 ih=>
  intro ss hss hnd
  cases ss with
  | nil=>exact hsame (.cons h1 h2)
  | cons s ss=>
   simp only[List.all_cons,Bool.and_eq_true] at hss
   exact .cons (wk1_rq hss.1 h1 (Zdc hnd).1) (ih hss.2 (Zdc hnd).2) hnd
theorem ZmK {w:World} {ok:Nat→Prop} {ss:List S1} (hs:ss.all (ZcL tab)=true) {x:V} {v:Value} {t n:List Nat} (h:Rq2 tab w ok x v t n) (hnd:(t++n).Nodup):Weak (Rq2 tab w) ok (wkV ss x) v t n:=by
 have hone:∀{x:V} {v:Value} {t n:List Nat},(∀cs,x≠.agg cs)→(∀T cs,x≠.nb T cs)→(∀T cs,x≠.rf T cs)→(∀T o cs,x≠.ro T o cs)→Rq1 tab w ok x v t n→(t++n).Nodup→Weak (Rq2 tab w) ok (wkV ss x) v t n:=by
  intro x v t n e1 e2 e3 e4 h hnd
  cases ss with
  | nil=>
   have:wkV [] x=x:=by cases x <;> first | rfl | exact absurd rfl (e1 _) | exact absurd rfl (e2 _ _) | exact absurd rfl (e3 _ _) | exact absurd rfl (e4 _ _ _)
   rw[this]
   exact .same fun ok' k1=>.one (h.keep k1)
  | cons s ss=>
   have:wkV (s :: ss) x=wk1 s x:=by cases x <;> first | rfl | exact absurd rfl (e1 _) | exact absurd rfl (e2 _ _) | exact absurd rfl (e3 _ _) | exact absurd rfl (e4 _ _ _)
   rw[this]
   simp only[List.all_cons,Bool.and_eq_true] at hs
   obtain⟨t',n',a1,a2,a3⟩:=wk1_rq hs.1 h hnd
   exact⟨t',n',a1,a2,fun ok' k1 k2=>.one (a3 ok' k1 k2)⟩
 have hagg:∀{cs:List V} {vs:List Value} {t n:List Nat},RqL (Rq1 tab w ok) cs vs t n→(t++n).Nodup→Weak (Rq2 tab w) ok (.agg (wkL ss cs)) (.agg vs.toArray) t n:=fun h hnd=>by
  obtain⟨t',n',a1,a2,a3⟩:=wkL_rq h hs hnd
  exact⟨t',n',a1,a2,fun ok' k1 k2=>.agg (a3 ok' k1 k2)⟩
 have hbox:∀{g:Nat} {cs:List V} {c:Array Value} {t n:List Nat},RqL (Rq1 tab w ok) cs c.toList t n→(g :: t++n).Nodup→
   ∃t' n',(g :: t').Sublist (g :: t)∧n'.Sublist n∧∀ok':Nat→Prop,(∀g,ok g→ok' g)→(∀x∈g :: t++n,x∉g :: t'→ok' x)→RqL (Rq1 tab w ok') (wkL ss cs) c.toList t' n':=by
  intro g cs c t n h hnd
  have hnd':g∉t++n∧(t++n).Nodup:=by simpa [List.nodup_cons] using hnd
  obtain⟨t',n',a1,a2,a3⟩:=wkL_rq h hs hnd'.2
  refine⟨t',n',a1.cons_cons g,a2,fun ok' k1 k2=>a3 ok' k1 fun x hx hn=>k2 x (by simpa using Or.inr hx) ?_⟩
  intro hm
  rcases List.mem_cons.1 hm with rfl | hm
  ·exact hnd'.1 hx
  ·exact hn hm
 cases h with
 | agg h=>exact hagg h hnd
 | nb h hg=>
  obtain⟨t',n',a1,a2,a3⟩:=hbox h hnd
  exact⟨_,n',a1,a2,fun ok' k1 k2=>.nb (a3 ok' k1 k2) hg⟩
 | rf h hg=>
  obtain⟨t',n',a1,a2,a3⟩:=hbox h hnd
  exact⟨_,n',a1,a2,fun ok' k1 k2=>.rf (a3 ok' k1 k2) hg⟩
 | ro h hg=>exact .same fun ok' k1=>.ro (h.mono fun _ _ _ _ h=>h.keep k1) hg
 | one h=>
  cases h with
  | row h=>exact hone (by simp) (by simp) (by simp) (by simp) (.row h) hnd
  | deep h=>exact hone (by simp) (by simp) (by simp) (by simp) (.deep h) hnd
  | tree h=>
   by_cases ha:∃cs,x = .agg cs
   ·obtain⟨cs,rfl⟩:=ha
    cases h with | agg _ vals hl h=>exact hagg (.of_trees hl h) hnd
   ·exact hone (fun cs e=>ha ⟨cs,e⟩) (fun T cs e=>by subst e;cases h) (fun T cs e=>by subst e;cases h) (fun T o cs e=>by subst e;cases h) (.tree h) hnd
theorem wkVs_rq {w:World} {ok:Nat→Prop} {xs:List V} {vs:List Value} {t n:List Nat} (h:RqL (Rq2 tab w ok) xs vs t n):∀{ss:List (List S1)},(ss.all fun s=>s.all (ZcL tab))=true→(t++n).Nodup→WeakL (Rq2 tab w) ok (wkVs ss xs) vs t n:=by
 have hsame:∀{xs:List V} {vs:List Value} {t n:List Nat},RqL (Rq2 tab w ok) xs vs t n→WeakL (Rq2 tab w) ok xs vs t n:=fun {xs vs t n} h=>⟨t,n, .refl _, .refl _,fun ok' k1 _=>h.mono fun _ _ _ _ h=>h.keep k1⟩
 induction h with
 | nil=>intro ss _ _;cases ss <;> exact hsame .nil
 | cons h1 h2 ih=>
  intro ss hss hnd
  cases ss with
  | nil=>exact hsame (.cons h1 h2)
  | cons s ss=>
   simp only[List.all_cons,Bool.and_eq_true] at hss
   exact .cons (ZmK hss.1 h1 (Zdc hnd).1) (ih hss.2 (Zdc hnd).2) hnd
theorem wkR_rq {w:World} {ok:Nat→Prop} {ss:List (List S1)} (hs:(ss.all fun s=>s.all (ZcL tab))=true) {x:V} {v:Value} {t n:List Nat} (h:Rq3 tab w ok x v t n) (hnd:(t++n).Nodup):Weak (Rq3 tab w) ok (wkR ss x) v t n:=by
 cases h with
 | tup h=>
  obtain⟨t',n',a1,a2,a3⟩:=wkVs_rq h hs hnd
  exact⟨t',n',a1,a2,fun ok' k1 k2=>.tup (a3 ok' k1 k2)⟩
 | one h=>
  have hnt:∀vs,x≠.tup vs:=by
   intro vs e
   subst e
   cases h with | one h=>cases h with | tree h=>cases h
  cases ss with
  | nil=>
   have:wkR [] x=x:=by cases x <;> first | rfl | exact absurd rfl (hnt _)
   rw[this]
   exact .same fun ok' k1=>.one (h.keep k1)
  | cons s ss=>
   have:wkR (s :: ss) x=wkV s x:=by cases x <;> first | rfl | exact absurd rfl (hnt _)
   rw[this]
   simp only[List.all_cons,Bool.and_eq_true] at hs
   obtain⟨t',n',a1,a2,a3⟩:=ZmK hs.1 h hnd
   exact⟨t',n',a1,a2,fun ok' k1 k2=>.one (a3 ok' k1 k2)⟩
theorem wkO_rq {w:World} {ok:Nat→Prop} {ss:List S1} (hs:ss.all (ZcL tab)=true) {x:V} {v:Value} {t n:List Nat} (h:Rq2 tab w ok x v t n) (hnd:(t++n).Nodup):Weak (Rq2 tab w) ok (wkO ss x) v t n:=by
 have hV:=ZmK hs h hnd
 have hS:Weak (Rq2 tab w) ok x v t n:=.same fun ok' k1=>h.keep k1
 cases x <;> first | exact hV | exact hS
theorem outOk_wk {p y:V} {s:List S1} (hp:outOk p y):outOk p (wkO s y):=by
 cases y <;> first | exact hp | (cases p <;> first | exact hp | exact hp.elim)
def WeakO (R:(Nat→Prop)→V→Value→List Nat→List Nat→Prop) (ok:Nat→Prop) (ps:List (V×Value)) (ys:List V) (t n:List Nat):Prop:=
 ∃t' n',t'.Sublist t∧n'.Sublist n∧∀ok':Nat→Prop,(∀g,ok g→ok' g)→(∀g∈t++n,g∉t'→ok' g)→OutL (R ok') ps ys t' n'
theorem wkOs_rq {w:World} {ok:Nat→Prop} {ps:List (V×Value)} {xs:List V} {t n:List Nat} (h:OutL (Rq2 tab w ok) ps xs t n):∀{ss:List (List S1)},(ss.all fun s=>s.all (ZcL tab))=true→(t++n).Nodup→WeakO (Rq2 tab w) ok ps (wkOs ss xs) t n:=by
 have hsame:∀{ps:List (V×Value)} {xs:List V} {t n:List Nat},OutL (Rq2 tab w ok) ps xs t n→WeakO (Rq2 tab w) ok ps xs t n:=fun {ps xs t n} h=>⟨t,n, .refl _, .refl _,fun ok' k1 _=>h.mono fun _ _ _ _ _ h=>h.keep k1⟩
 induction h with
 | nil=>intro ss _ _;cases ss <;> exact hsame .nil
 | cons h0 h1 h2 ih=>
  intro ss hss hnd
  cases ss with
  | nil=>exact hsame (.cons h0 h1 h2)
  | cons s ss=>
   simp only[List.all_cons,Bool.and_eq_true] at hss
   obtain⟨s1,m1,a1,a2,a3⟩:=wkO_rq hss.1 h1 (Zdc hnd).1
   obtain⟨s2,m2,b1,b2,b3⟩:=ih hss.2 (Zdc hnd).2
   refine⟨s1++s2,m1++m2,a1.append b1,a2.append b2,fun ok' k1 k2=>.cons (outOk_wk h0) (a3 ok' k1 fun g hg hn=>?_) (b3 ok' k1 fun g hg hn=>?_)⟩
   ·exact k2 g (ZgY hg) fun h=>(List.mem_append.1 h).elim hn (Ziw hnd b1 hg)
   ·exact k2 g (Zgm hg) fun h=>(List.mem_append.1 h).elim (ZhH hnd a1 hg) hn
theorem SumOk.weaken {f:FuncId} {args:List V} {r:V×List V} (h:SumOk P tab f args r) {ss os:List (List S1)} (hs:(ss.all fun s=>s.all (ZcL tab))=true) (ho:(os.all fun s=>s.all (ZcL tab))=true):
  SumOk P tab f args (wkF ss os r):=by
 intro w ok vals t n hr hnd hok hlt
 refine Calls.mono (h w ok vals t n hr hnd hok hlt) ?_
 rintro e w' ⟨val,rfl,rt,rn,ot,on,r1,r2,h1,h2,h3,h4,h5⟩
 refine⟨val,rfl,?_⟩
 obtain⟨ho1,hr1⟩:=Zdc h1
 obtain⟨rt',rn',a1,a2,a3⟩:=wkR_rq hs r1 hr1
 obtain⟨ot',on',b1,b2,b3⟩:=wkOs_rq r2 ho ho1
 have hT:(ot'++rt').Sublist (ot++rt):=b1.append a1
 have hN:(on'++rn').Sublist (on++rn):=b2.append a2
 have base:∀g,g∈(ot++rt)++(on++rn)→(ok g∨g∈t++n∨w.heap.size≤g)∧g<w'.heap.size:=fun g hg=>by
  refine⟨?_,h4 g hg⟩
  rcases List.mem_append.1 hg with hg | hg
  ·rcases h2 g hg with h | h
   ·exact .inr (.inl (List.mem_append_left _ h))
   ·exact .inr (.inr h)
  ·exact .inr (h3 g hg)
 have k1:∀g,((ok g∨g∈t++n∨w.heap.size≤g)∧g<w'.heap.size∧g∉ot++rt)→(ok g∨g∈t++n∨w.heap.size≤g)∧g<w'.heap.size∧g∉ot'++rt':=fun g hg=>⟨hg.1,hg.2.1,fun hh=>hg.2.2 (hT.mem hh)⟩
 refine⟨rt',rn',ot',on',a3 _ k1 fun g hg hn=>?_,b3 _ k1 fun g hg hn=>?_,(hT.append hN).nodup h1,fun g hg=>h2 g (hT.mem hg),fun g hg=>h3 g (hN.mem hg),fun g hg=>h4 g ((hT.append hN).mem hg),h5⟩
 ·have hb:=base g (Zgm hg)
  exact⟨hb.1,hb.2,fun hh=>(List.mem_append.1 hh).elim (ZhH h1 b1 hg) hn⟩
 ·have hb:=base g (ZgY hg)
  exact⟨hb.1,hb.2,fun hh=>(List.mem_append.1 hh).elim hn (Ziw h1 a1 hg)⟩
end
end Go.Eng
namespace Go.Eng
def gi (x:V) (j:Nat):Int:=(x.cell j).I
def gb (x:V) (j:Nat):Bool:=(x.cell j).B
def gl (x:V) (j:Nat):List V:=(x.cell j).L
def gs (x:V) (j:Nat):List V:=(x.cell j).S
def rd (l:List V) (i:Nat):V:=l.getD i .dead
def bAnd (k:IntKind) (a b:Int):Int:=k.wrap ((BitVec.ofInt k.bits a &&& BitVec.ofInt k.bits b).toNat:Int)
def bXor (k:IntKind) (a b:Int):Int:=k.wrap ((BitVec.ofInt k.bits a ^^^ BitVec.ofInt k.bits b).toNat:Int)
def ZeG (k:IntKind) (a b:Int):Int:=a.fdiv (2 ^ (min b.toNat k.bits))
def V.off:V→Nat | .sl _ _ o _=>o | _=>0
def V.slen:V→Nat | .sl _ _ _ (some n)=>n | _=>0
def V.idx:V→Nat | .rp _ i _=>i | _=>0
def V.caps:V→List V | .fn _ cs=>cs | _=>[]
def V.toInl:V→V
 | .rr T _ l=>.inl T l
 | .dr T l=>.inl T l
 | v=>v
def V.unbox:V→V
 | .rf _ cs=>.agg (cs.map V.toInl)
 | .ro _ _ cs=>.agg (cs.map V.toInl)
 | .nb _ cs=>.agg (cs.map V.toInl)
 | .ep cs _=>.agg cs
 | v=>v
def S1.ok:S1→V→Bool
 | .int k, .int k' _=>decide (k'=k)
 | .bool, .bool _=>true
 | .str, .str _=>true
 | .inl T, .inl T' _=>Nat.beq T T'
 | .rr T o, .rr T' o' _=>Nat.beq T T'&&(o == o')
 | .nil T, .nil T'=>Nat.beq T T'
 | .sl id T, .sl id' T' 0 none=>Nat.beq id id'&&Nat.beq T T'
 | .slo id T, .sl id' T' _ none=>Nat.beq id id'&&Nat.beq T T'
 | .sll id T, .sl id' T' _ (some _)=>Nat.beq id id'&&Nat.beq T T'
 | .bp id off, .bp id' off'=>Nat.beq id id'&&Nat.beq off off'
 | .rp id off, .rp id' _ off'=>Nat.beq id id'&&Nat.beq off off'
 | .dead, .dead=>true
 | .dr T, .dr T' _=>Nat.beq T T'
 | _,_=>false
def S1.mk:S1→V→V
 | .int k,x=>.int k x.I
 | .bool,x=>.bool x.B
 | .str,x=>.str x.S
 | .inl T,x=>.inl T x.L
 | .rr T o,x=>.rr T o x.L
 | .nil T,_=>.nil T
 | .sl id T,_=>.sl id T 0 none
 | .slo id T,x=>.sl id T x.off none
 | .sll id T,x=>.sl id T x.off (some x.slen)
 | .bp id off,_=>.bp id off
 | .rp id off,x=>.rp id x.idx off
 | .dead,_=>.dead
 | .dr T,x=>.dr T x.L
theorem ZdB {a b:Nat} (h:Nat.beq a b=true):a=b:=Nat.eq_of_beq_eq_true h
theorem S1.mk_ok {s:S1} {x:V} (h:s.ok x=true):s.mk x=x:=by
 unfold S1.ok at h
 split at h <;> (try simp only[Bool.and_eq_true,decide_eq_true_eq,beq_iff_eq] at h) <;> (try simp only[S1.mk])
 all_goals first
  | rfl
  | (subst h;rfl)
  | (obtain rfl:=ZdB h;rfl)
  | (obtain⟨h1,h2⟩:=h;obtain rfl:=ZdB h1;obtain rfl:=ZdB h2;rfl)
  | (obtain⟨h1,h2⟩:=h;obtain rfl:=ZdB h1;subst h2;rfl)
  | (cases h)
def okL:List S1→List V→Bool
 | [],[]=>true
 | s :: ss,v :: vs=>s.ok v&&okL ss vs
 | _,_=>false
def mkC:List S1→V→Nat→List V
 | [],_,_=>[]
 | s :: ss,x,j=>s.mk (x.cell j) :: mkC ss x (j+1)
theorem mkC_ok:∀{ss:List S1} {vs pre:List V},okL ss vs=true→mkC ss (.agg (pre++vs)) pre.length=vs
 | [],[],_,_=>rfl
 | s :: ss,v :: vs,pre,h=>by
  simp only[okL,Bool.and_eq_true] at h
  have ih:=mkC_ok (ss:=ss) (vs:=vs) (pre:=pre++[v]) h.2
  simp only[List.append_assoc,List.singleton_append,List.length_append,List.length_cons,List.length_nil,Nat.zero_add] at ih
  simp only[mkC]
  rw[ih]
  congr 1
  have:V.cell (.agg (pre++v :: vs)) pre.length=v:=by simp[V.cell,V.cells]
  rw[this];exact S1.mk_ok h.1
 | [],_ :: _,_,h=>by cases h
 | _ :: _,[],_,h=>by cases h
theorem S1.mk_inl {s:S1} {x:V} (h:s.ok x=true):s.mk x.toInl=x:=by
 have h0:=S1.mk_ok h
 cases x <;> first
  | exact h0
  | (cases s <;> first | (cases h;done) | exact h0)
theorem cell_map {f:V→V} (hf:f .dead = .dead) (vs:List V) (j:Nat):V.cell (.agg (vs.map f)) j=f (V.cell (.agg vs) j):=by
 simp only[V.cell,V.cells];exact Zgj hf vs j
theorem Zoq:∀{ss:List S1} {vs pre:List V},okL ss vs=true→mkC ss (.agg ((pre++vs).map V.toInl)) pre.length=vs
 | [],[],_,_=>rfl
 | s :: ss,v :: vs,pre,h=>by
  simp only[okL,Bool.and_eq_true] at h
  have ih:=Zoq (ss:=ss) (vs:=vs) (pre:=pre++[v]) h.2
  simp only[List.append_assoc,List.singleton_append,List.length_append,List.length_cons,List.length_nil,Nat.zero_add] at ih
  simp only[mkC]
  rw[ih,cell_map rfl]
  congr 1
  have:V.cell (.agg (pre++v :: vs)) pre.length=v:=by simp[V.cell,V.cells]
  rw[this];exact S1.mk_inl h.1
 | [],_ :: _,_,h=>by cases h
 | _ :: _,[],_,h=>by cases h
theorem ZmL {ss:List S1} {vs:List V} (h:okL ss vs=true):mkC ss (.agg (vs.map V.toInl)) 0=vs:=Zoq (pre:=[]) h
theorem Zhd {ss:List S1} {vs:List V} (h:okL ss vs=true):mkC ss (.agg vs) 0=vs:=mkC_ok (pre:=[]) h
inductive S2 where
 | one (s:S1) | agg (l:List S1) | rf (T:TypeId) (l:List S1) | ro (T:TypeId) (off:Nat) (l:List S1) | ep (l:List S1) (off:Nat) | fn (f:FuncId) (l:List (List S1)) | tup (l:List S1)
 deriving Inhabited
def ZkB:List (List S1)→List V→Bool
 | [],[]=>true
 | s :: ss, .ep cs 0 :: vs=>okL s cs&&ZkB ss vs
 | _,_=>false
def ZkC:List (List S1)→List V→Nat→List V
 | [],_,_=>[]
 | s :: ss,vs,j=>.ep (mkC s (rd vs j).unbox 0) 0 :: ZkC ss vs (j+1)
theorem ZlI:∀{ss:List (List S1)} {vs pre:List V},ZkB ss vs=true→ZkC ss (pre++vs) pre.length=vs
 | [],[],_,_=>rfl
 | s :: ss,v :: vs,pre,h=>by
  unfold ZkB at h
  split at h
  ·rename_i he;cases he
  ·rename_i s' ss' cs vs' h1 h2
   cases h1;cases h2
   simp only[Bool.and_eq_true] at h
   have ih:=ZlI (ss:=ss) (vs:=vs) (pre:=pre++[.ep cs 0]) h.2
   simp only[List.append_assoc,List.singleton_append,List.length_append,List.length_cons,List.length_nil,Nat.zero_add] at ih
   simp only[ZkC]
   rw[ih]
   congr 1
   have:rd (pre++V.ep cs 0 :: vs) pre.length = .ep cs 0:=by simp[rd]
   rw[this]
   simp only[V.unbox]
   rw[Zhd h.1]
  ·cases h
 | [],_ :: _,_,h=>by cases h
 | _ :: _,[],_,h=>by cases h
def S2.ok:S2→V→Bool
 | .one s,x=>s.ok x
 | .agg l, .agg cs=>okL l cs
 | .rf T l, .rf T' cs=>Nat.beq T T'&&okL l cs
 | .ro T o l, .ro T' o' cs=>Nat.beq T T'&&(Nat.beq o o'&&okL l cs)
 | .ep l off, .ep cs off'=>Nat.beq off off'&&okL l cs
 | .fn f l, .fn f' cs=>Nat.beq f f'&&ZkB l cs
 | .tup l, .tup cs=>okL l cs
 | _,_=>false
def S2.mk:S2→V→V
 | .one s,x=>s.mk x
 | .agg l,x=>.agg (mkC l x 0)
 | .rf T l,x=>.rf T (mkC l x.unbox 0)
 | .ro T o l,x=>.ro T o (mkC l x.unbox 0)
 | .ep l off,x=>.ep (mkC l x.unbox 0) off
 | .fn f l,x=>.fn f (ZkC l x.caps 0)
 | .tup l,x=>.tup (mkC l (match x with | .tup cs=>.agg cs | v=>v) 0)
theorem S2.mk_ok {s:S2} {x:V} (h:s.ok x=true):s.mk x=x:=by
 unfold S2.ok at h
 split at h
 ·exact S1.mk_ok h
 ·simp only[S2.mk];rw[Zhd h]
 ·simp only[Bool.and_eq_true] at h
  obtain rfl:=ZdB h.1
  simp only[S2.mk,V.unbox];rw[ZmL h.2]
 ·simp only[Bool.and_eq_true] at h
  obtain rfl:=ZdB h.1
  obtain rfl:=ZdB h.2.1
  simp only[S2.mk,V.unbox];rw[ZmL h.2.2]
 ·simp only[Bool.and_eq_true] at h
  obtain rfl:=ZdB h.1
  simp only[S2.mk,V.unbox];rw[Zhd h.2]
 ·simp only[Bool.and_eq_true] at h
  obtain rfl:=ZdB h.1
  have e:=ZlI (pre:=[]) h.2
  simp only[List.nil_append,List.length_nil] at e
  simp only[S2.mk,V.caps];rw[e]
 ·simp only[S2.mk];rw[Zhd h]
 ·cases h
def Zbu:List S2→List V→Bool
 | [],[]=>true
 | s :: ss,v :: vs=>s.ok v&&Zbu ss vs
 | _,_=>false
def ZdM:List S2→List V→Nat→List V
 | [],_,_=>[]
 | s :: ss,vs,j=>s.mk (rd vs j) :: ZdM ss vs (j+1)
theorem Zdv:∀{ss:List S2} {vs pre:List V},Zbu ss vs=true→ZdM ss (pre++vs) pre.length=vs
 | [],[],_,_=>rfl
 | s :: ss,v :: vs,pre,h=>by
  simp only[Zbu,Bool.and_eq_true] at h
  have ih:=Zdv (ss:=ss) (vs:=vs) (pre:=pre++[v]) h.2
  simp only[List.append_assoc,List.singleton_append,List.length_append,List.length_cons,List.length_nil,Nat.zero_add] at ih
  simp only[ZdM]
  rw[ih]
  congr 1
  have:rd (pre++v :: vs) pre.length=v:=by simp[rd]
  rw[this];exact S2.mk_ok h.1
 | [],_ :: _,_,h=>by cases h
 | _ :: _,[],_,h=>by cases h
inductive SB where
 | box (T:TypeId) (l:List S1) | row (T:TypeId) (own:Bool) | gone | drow (T:TypeId)
 deriving Inhabited
structure SS where
 sl:List (Nat×S2)
 hp:List SB
 nid:Nat
 lent:List Nat
def sv (s:St) (j:Nat):V:=(s.sl.getD j (0, .dead)).2
def bv (s:St) (j:Nat):Option Blk:=(s.hp.getD j (0,none)).2
def bcOf:Option Blk→V
 | some (.box _ cs)=>.agg cs
 | _=>.dead
def brOf:Option Blk→List V
 | some (.row _ _ els)=>els
 | some (.drow _ els)=>els
 | _=>[]
def bc (s:St) (j:Nat):V:=bcOf (bv s j)
def br (s:St) (j:Nat):List V:=brOf (bv s j)
def okSl:List (Nat×S2)→List (Nat×V)→Bool
 | [],[]=>true
 | p :: ps,q :: qs=>Nat.beq p.1 q.1&&(p.2.ok q.2&&okSl ps qs)
 | _,_=>false
def SB.ok:SB→Option Blk→Bool
 | .box T l,some (.box T' cs)=>Nat.beq T T'&&okL l cs
 | .row T o,some (.row T' o' _)=>Nat.beq T T'&&(o == o')
 | .gone,none=>true
 | .drow T,some (.drow T' _)=>Nat.beq T T'
 | _,_=>false
def SB.mk:SB→Option Blk→Option Blk
 | .box T l,x=>some (.box T (mkC l (bcOf x) 0))
 | .row T o,x=>some (.row T o (brOf x))
 | .gone,_=>none
 | .drow T,x=>some (.drow T (brOf x))
theorem SB.mk_ok {s:SB} {x:Option Blk} (h:s.ok x=true):s.mk x=x:=by
 unfold SB.ok at h
 split at h
 ·simp only[Bool.and_eq_true] at h
  obtain rfl:=ZdB h.1
  simp only[SB.mk,bcOf];rw[Zhd h.2]
 ·simp only[Bool.and_eq_true,beq_iff_eq] at h
  obtain⟨h1,rfl⟩:=h
  obtain rfl:=ZdB h1
  rfl
 ·rfl
 ·obtain rfl:=ZdB h
  rfl
 ·cases h
def okHp:Nat→List SB→List (Nat×Option Blk)→Bool
 | _,[],[]=>true
 | k,b :: bs,q :: qs=>Nat.beq k q.1&&(b.ok q.2&&okHp (k+1) bs qs)
 | _,_,_=>false
def mkSl:List (Nat×S2)→St→Nat→List (Nat×V)
 | [],_,_=>[]
 | p :: ps,s,j=>(p.1,p.2.mk (sv s j)) :: mkSl ps s (j+1)
def mkHp:List SB→St→Nat→List (Nat×Option Blk)
 | [],_,_=>[]
 | b :: bs,s,j=>(j,b.mk (bv s j)) :: mkHp bs s (j+1)
def eqNs:List Nat→List Nat→Bool
 | [],[]=>true
 | a :: x,b :: y=>Nat.beq a b&&eqNs x y
 | _,_=>false
theorem ZlJ:∀{x y:List Nat},eqNs x y=true→x=y
 | [],[],_=>rfl
 | a :: x,b :: y,h=>by
  simp only[eqNs,Bool.and_eq_true] at h
  rw[ZdB h.1,ZlJ h.2]
 | [],_ :: _,h=>by cases h
 | _ :: _,[],h=>by cases h
def SS.ok (ss:SS) (s:St):Bool:=okSl ss.sl s.sl&&(okHp 0 ss.hp s.hp&&(Nat.beq ss.nid s.nid&&eqNs ss.lent s.lent))
def SS.mk' (ss:SS) (s:St):St:=⟨mkSl ss.sl s 0,mkHp ss.hp s 0,ss.nid,ss.lent⟩
theorem Zor {s:St}:∀{ps:List (Nat×S2)} {qs pre:List (Nat×V)},s.sl=pre++qs→okSl ps qs=true→mkSl ps s pre.length=qs
 | [],[],_,_,_=>rfl
 | p :: ps,q :: qs,pre,e,h=>by
  simp only[okSl,Bool.and_eq_true] at h
  have ih:=Zor (s:=s) (ps:=ps) (qs:=qs) (pre:=pre++[q]) (by simpa using e) h.2.2
  simp only[List.length_append,List.length_cons,List.length_nil,Nat.zero_add] at ih
  simp only[mkSl]
  rw[ih]
  have:sv s pre.length=q.2:=by simp[sv,e]
  rw[this,S2.mk_ok h.2.1,ZdB h.1]
 | [],_ :: _,_,_,h=>by cases h
 | _ :: _,[],_,_,h=>by cases h
theorem Zos {s:St}:∀{bs:List SB} {qs pre:List (Nat×Option Blk)},s.hp=pre++qs→okHp pre.length bs qs=true→mkHp bs s pre.length=qs
 | [],[],_,_,_=>rfl
 | b :: bs,q :: qs,pre,e,h=>by
  simp only[okHp,Bool.and_eq_true] at h
  have ih:=Zos (s:=s) (bs:=bs) (qs:=qs) (pre:=pre++[q]) (by simpa using e) (by simpa using h.2.2)
  simp only[List.length_append,List.length_cons,List.length_nil,Nat.zero_add] at ih
  simp only[mkHp]
  rw[ih]
  have:bv s pre.length=q.2:=by simp[bv,e]
  rw[this,SB.mk_ok h.2.1,ZdB h.1]
 | [],_ :: _,_,_,h=>by cases h
 | _ :: _,[],_,_,h=>by cases h
theorem SS.mk_ok {ss:SS} {s:St} (h:ss.ok s=true):ss.mk' s=s:=by
 simp only[SS.ok,Bool.and_eq_true] at h
 obtain⟨h1,h2,h3,h4⟩:=h
 simp only[SS.mk']
 have e1:=Zor (s:=s) (pre:=[]) rfl h1
 have e2:=Zos (s:=s) (pre:=[]) rfl h2
 simp only[List.length_nil] at e1 e2
 rw[e1,e2,ZdB h3,ZlJ h4]
def rcall {α X:Type} [Inhabited α] (F:Option α) (g:α→Option X):Option X:=bif F.isSome then g (F.getD default) else none
def Agr {α X Y:Type} (w:X→Y) (sh:α→Y) (F:Option α) (O:Option X):Prop:=∀r,F=some r→O.map w=some (sh r)
def Tot {α X Y:Type} (w:X→Y) (sh:α→Y) (F:α) (O:Option X):Prop:=O.map w=some (sh F)
section
variable {α β X Y:Type} {w:X→Y} {sh:α→Y}
theorem agr_none {O:Option X}:Agr w sh (none:Option α) O:=fun _ h=>by cases h
theorem agr_leaf {r:α} {x:X} (h:w x=sh r):Agr w sh (some r) (some x):=fun _ e=>by cases e;simp[h]
theorem agr_if {c:Bool} {a b:Option α} {A B:Option X} (h1:Agr w sh a A) (h2:Agr w sh b B):Agr w sh (bif c then a else b) (bif c then A else B):=by
 cases c
 ·exact h2
 ·exact h1
theorem agr_call [Inhabited β] {F:Option β} {f:β→Option α} {g:β→Option X} (h:∀x,Agr w sh (f x) (g x)):Agr w sh (F.bind f) (rcall F g):=by
 intro r e
 cases F with
 | none=>cases e
 | some x=>exact h x r e
theorem tot_leaf {r:α} {x:X} (h:w x=sh r):Tot w sh r (some x):=by simp[Tot,h]
theorem tot_if {c:Bool} {a b:α} {A B:Option X} (h1:Tot w sh a A) (h2:Tot w sh b B):Tot w sh (bif c then a else b) (bif c then A else B):=by
 cases c
 ·exact h2
 ·exact h1
end
def brs (x:Nat):Nat→List (Ex×St)→Out
 | _,[]=>.tst false (.leaf .ret default)
 | _,[p]=>.leaf p.1 p.2
 | i,p :: ps=>.br (Nat.beq x i) (.leaf p.1 p.2) (brs x (i+1) ps)
def pick (x:Nat):Nat→List (Ex×St)→Ex×St
 | _,[]=>(.ret,default)
 | _,[p]=>p
 | i,p :: ps=>bif Nat.beq x i then p else pick x (i+1) ps
theorem Zot {x:Nat}:∀{i:Nat} {ps:List (Ex×St)} {r:Ex×St},(brs x i ps).get=some r→pick x i ps=r
 | _,[],_,h=>by cases h
 | _,[p],_,h=>by simpa [brs,Out.get,pick] using h
 | i,p :: q :: ps,r,h=>by
  simp only[brs,Out.get,pick] at h ⊢
  cases hb:Nat.beq x i with
  | true=>rw[hb] at h;simpa using h
  | false=>rw[hb] at h;exact Zot (i:=i+1) (ps:=q :: ps) h
section
variable {P:Program}
theorem Base.sum {cfg:Cfg} (hB:Base P cfg.tab) (hS:Zbk P cfg.tab cfg.sums) {f:FuncId} {fn:Func} (hf:P.funcs[f]? = some fn) (hok:fnOk fn=true) {L:Loops} (hL:ZC cfg L (ZM fn)) (A:List S2) (hlen:Nat.ble A.length fn.ntmps=true)
  {α:Type} [Inhabited α] {F:List V→Option α} {shr:α→V×List V} (ws os:List (List S1)) (hw:((ws.all fun s=>s.all (ZcL cfg.tab))&&(os.all fun s=>s.all (ZcL cfg.tab)))=true)
  (E:∀args,ZdM A args 0=args→Agr (wkF ws os) shr (F args) (Zem cfg L fn args)):
  ∀args r,(bif Zbu A args then some ((F args).isSome,shr ((F args).getD default)) else none)=some (true,r)→SumOk P cfg.tab f args r:=by
 intro args r h
 cases hs:Zbu A args with
 | false=>rw[hs] at h;cases h
 | true=>
  rw[hs] at h
  simp only[cond_true,Option.some.injEq,Prod.mk.injEq] at h
  obtain⟨h1,h2⟩:=h
  obtain⟨x,hx⟩:=Option.isSome_iff_exists.1 h1
  rw[hx] at h2
  have:=E args (Zdv (pre:=[]) hs) x hx
  obtain⟨r0,h3,h4⟩:=Option.map_eq_some_iff.1 this
  simp only[Bool.and_eq_true] at hw
  have hl:args.length=A.length:=by
   clear h1 h2 hx this h3 h4 E hf hok hlen
   induction A generalizing args with
   | nil=>cases args with
    | nil=>rfl
    | cons _ _=>cases hs
   | cons a A ih=>
    cases args with
    | nil=>cases hs
    | cons v vs=>
     simp only[Zbu,Bool.and_eq_true] at hs
     simp[ih vs hs.2]
  have:=(hB.fn hS hf hok hL (args:=args) (by rw[hl];exact hlen) h3).weaken hw.1 hw.2
  rw[h4] at this
  rw[←h2];exact this
theorem Base.sumT {cfg:Cfg} (hB:Base P cfg.tab) (hS:Zbk P cfg.tab cfg.sums) {f:FuncId} {fn:Func} (hf:P.funcs[f]? = some fn) (hok:fnOk fn=true) {L:Loops} (hL:ZC cfg L (ZM fn)) (A:List S2) (hlen:Nat.ble A.length fn.ntmps=true)
  {α:Type} {F:List V→α} {shr:α→V×List V} (ws os:List (List S1)) (hw:((ws.all fun s=>s.all (ZcL cfg.tab))&&(os.all fun s=>s.all (ZcL cfg.tab)))=true)
  (E:∀args,ZdM A args 0=args→Tot (wkF ws os) shr (F args) (Zem cfg L fn args)):
  ∀args r,(bif Zbu A args then some (true,shr (F args)) else none)=some (true,r)→SumOk P cfg.tab f args r:=by
 intro args r h
 cases hs:Zbu A args with
 | false=>rw[hs] at h;cases h
 | true=>
  rw[hs] at h
  simp only[cond_true,Option.some.injEq,Prod.mk.injEq,true_and] at h
  obtain⟨r0,h3,h4⟩:=Option.map_eq_some_iff.1 (E args (Zdv (pre:=[]) hs))
  simp only[Bool.and_eq_true] at hw
  have hl:args.length=A.length:=by
   clear h h3 h4 E hf hok hlen
   induction A generalizing args with
   | nil=>cases args with
    | nil=>rfl
    | cons _ _=>cases hs
   | cons a A ih=>
    cases args with
    | nil=>cases hs
    | cons v vs=>
     simp only[Zbu,Bool.and_eq_true] at hs
     simp[ih vs hs.2]
  have:=(hB.fn hS hf hok hL (args:=args) (by rw[hl];exact hlen) h3).weaken hw.1 hw.2
  rw[h4] at this
  rw[←h];exact this
end
end Go.Eng
namespace Go.Eng
def mnI (a b:Int):Int:=if b<a then b else a
def mxI (a b:Int):Int:=if a<b then b else a
structure LE where
 key:Nat
 ss:SS
 o:St→Out
def Zbe:List LE→Nat→St→Option Out
 | [],_,_=>none
 | e :: r,key,st=>bif Nat.beq key e.key&&e.ss.ok st then some (e.o st) else Zbe r key st
def Good (cfg:Cfg) (L:Loops) (a:Code) (e:LE):Prop:=∀st,e.ss.mk' st=st→∀r,(e.o st).get=some r→∃n,ZJ cfg L a n st=some r
theorem Zou {cfg:Cfg} {L:Loops} {body:Code} {key:Nat} {ss:SS} {α:Type} [Inhabited α] {F:St→Option α} (fuel:St→Nat) {ix:α→Nat} {ps:α→List (Ex×St)}
  (H:∀st,ss.mk' st=st→Agr id (fun r=>pick (ix r) 0 (ps r)) (F st) (ZJ cfg L body (fuel st) st)):
  Good cfg L body ⟨key,ss,fun s=>Out.tst (F s).isSome (brs (ix ((F s).getD default)) 0 (ps ((F s).getD default)))⟩:=by
 intro s hs r h2
 cases hF:F s with
 | none=>
  simp only[hF] at h2
  cases h2
 | some x=>
  simp only[hF] at h2
  have h2:(brs (ix x) 0 (ps x)).get=some r:=h2
  have:=H s hs x hF
  rw[Option.map_id,id] at this
  have e:=Zot h2
  exact⟨fuel s,by rw[this];dsimp only;rw[e]⟩
def ZmM (bodies:List Code) (key i:Nat):Bool:=(List.range bodies.length).all fun j=>Nat.beq j i || !(Nat.beq (Zbo (bodies.getD j .skip)) key)
theorem ZpI {bodies:List Code} {key i:Nat} (h:ZmM bodies key i=true) {Q:Code→Prop} (hq:Q (bodies.getD i .skip)):∀a∈bodies,Zbo a=key→Q a:=by
 intro a ha hk
 obtain⟨j,hj,rfl⟩:=List.getElem_of_mem ha
 unfold ZmM at h
 rw[List.all_eq_true] at h
 have:=h j (List.mem_range.2 hj)
 have e:bodies.getD j .skip=bodies[j]:=by simp[List.getD,hj]
 rw[e,hk] at this
 simp only[Bool.or_eq_true,Bool.not_eq_true'] at this
 rcases this with h1 | h1
 ·obtain rfl:=ZdB h1
  rw[e] at hq;exact hq
 ·rw[show Nat.beq key key=true from Nat.beq_refl key] at h1;cases h1
inductive GoodAll (cfg:Cfg) (L:Loops) (bodies:List Code):List LE→Prop where
 | nil:GoodAll cfg L bodies []
 | cons {e:LE} {r:List LE} (i:Nat):ZmM bodies e.key i=true→Good cfg L (bodies.getD i .skip) e→GoodAll cfg L bodies r→GoodAll cfg L bodies (e :: r)
theorem GoodAll.ok {cfg:Cfg} {L:Loops} {fn:Func} {l:List LE} (h:GoodAll cfg L (ZcS (ZM fn)) l) (hr:L.run=Zbe l):ZC cfg L (ZM fn):=by
 refine ZdA _ fun a ha s o r h1 h2=>?_
 rw[hr] at h1
 clear hr
 generalize hb:ZcS (ZM fn)=bodies at h ha
 clear hb
 induction h with
 | nil=>cases h1
 | @cons e rest i hu hg _ ih=>
  simp only[Zbe] at h1
  cases hc:(Nat.beq (Zbo a) e.key&&e.ss.ok s) with
  | false=>rw[hc] at h1;exact ih h1
  | true=>
   rw[hc] at h1
   simp only[Bool.and_eq_true] at hc
   simp only[cond_true,Option.some.injEq] at h1
   subst h1
   exact ZpI hu (Q:=fun a=>Good cfg L a e) hg a ha (ZdB hc.1) s (SS.mk_ok hc.2) r h2
section
variable {P:Program} {tab:Tab}
theorem Zix {f:FuncId} {T:TypeId} {l:List V} {r:V×List V} (h1:SumOk P tab f [.nn T l] r) (h2:l=[]→SumOk P tab f [.nl T] r):SumOk P tab f [.inl T l] r:=by
 intro w ok vals t n hr hnd hok hlt
 cases hr with | @cons _ v t1 n1 _ vs ts ns hx hxs=>
 cases hxs
 have hv:Rp tab w ok (.inl T l) v∧t1=[]∧n1=[]:=by
  cases hx with | one hx=>cases hx with | tree hx=>exact⟨hx,rfl,rfl⟩
 obtain⟨hv,rfl,rfl⟩:=hv
 have hlent:Zbs [V.inl T l] [v]=[]:=by simp[Zbs,Zcc]
 cases hv with | inl _ _ ty a cap g off cv q1 q2 q3 q4 q5 q6=>
 cases a with
 | some a=>
  have hr':RqL (Rq2 tab w ok) [.nn T l] [.slice (some a) l.length cap] ([]++[]) ([]++[]):=.cons (.one (.tree (.nn T l a _ cap (.inl T l ty (some a) cap g off cv q1 q2 q3 q4 q5 q6)))) .nil
  exact h1 w ok _ _ _ hr' hnd hok hlt
 | none=>
  have hl:l=[]:=by
   rcases l with _ | ⟨x,l⟩
   ·rfl
   ·have:=(q3 (by simp)).1;cases this
  subst hl
  have hr':RqL (Rq2 tab w ok) [.nl T] [.slice none ([]:List V).length cap] ([]++[]) ([]++[]):=.cons (.one (.tree (.nl T ty cap q1))) .nil
  exact h2 rfl w ok _ _ _ hr' hnd hok hlt
theorem Base.sumNil {cfg:Cfg} (hB:Base P cfg.tab) (hS:Zbk P cfg.tab cfg.sums) {f:FuncId} {fn:Func} (hf:P.funcs[f]? = some fn) (hok:fnOk fn=true) {L:Loops} (hL:ZC cfg L (ZM fn)) (T:TypeId) (hlen:Nat.ble 1 fn.ntmps=true)
  {α:Type} [Inhabited α] {F:List V→Option α} {shr:α→V×List V} (ws os:List (List S1)) (hw:((ws.all fun s=>s.all (ZcL cfg.tab))&&(os.all fun s=>s.all (ZcL cfg.tab)))=true)
  (E1:∀l,Agr (wkF ws os) shr (F l) (Zem cfg L fn [.nn T l])) (E2:Agr (wkF ws os) shr (F []) (Zem cfg L fn [.nl T])):
  ∀args r,(bif Zbu [.one (.inl T)] args then some ((F (rd args 0).L).isSome,shr ((F (rd args 0).L).getD default)) else none)=some (true,r)→SumOk P cfg.tab f args r:=by
 intro args r h
 cases hs:Zbu [.one (.inl T)] args with
 | false=>rw[hs] at h;cases h
 | true=>
  rw[hs] at h
  simp only[cond_true,Option.some.injEq,Prod.mk.injEq] at h
  obtain⟨h1,h2⟩:=h
  obtain⟨x,hx⟩:=Option.isSome_iff_exists.1 h1
  rw[hx] at h2
  have ha:=Zdv (pre:=[]) hs
  simp only[List.nil_append,List.length_nil,ZdM,S2.mk,S1.mk] at ha
  simp only[Bool.and_eq_true] at hw
  rw[←ha]
  have key:∀v,Agr (wkF ws os) shr (F (rd args 0).L) (Zem cfg L fn [v])→SumOk P cfg.tab f [v] r:=fun v hE=>by
   obtain⟨r0,h3,h4⟩:=Option.map_eq_some_iff.1 (hE x hx)
   have:=(hB.fn hS hf hok hL (args:=[v]) hlen h3).weaken hw.1 hw.2
   rw[h4] at this
   rw[←h2];exact this
  exact Zix (key _ (E1 _)) fun e=>key _ (by rw[e];exact E2)
end
end Go.Eng
namespace Go.Eng
open RM
noncomputable section
def gEls (e:TypeId):V→RM (List V×List Nat)
 | .nil _=>ret ([],[])
 | .sl id _ off len=>match off,len with
  | 0,none=>bind (get id) fun b=>match b with
   | .grow T cs=>test (decide (T=e)) (ret (cs,[id]))
   | _=>fail
  | _,_=>fail
 | _=>fail
def appendG (tab:Tab) (t t2:TypeId) (nid:Nat) (s x:V):RM Eff:=
 bind (lift ((tab t).bind (·.elem))) fun e=>bind (lift (tab e)) fun ty=>
 bind (gEls e s) fun a=>bind (gEls e x) fun b=>
 test (decide (ty.kinds.length=1)&&(b.1.all V.one&&(isSeq tab t2&&(Zv (a.1.length+b.1.length) ty.bytes&&ZbX (a.2++b.2)))))
  (ret ⟨.sl nid e 0 none,ended (a.2++b.2)++[(nid,some (.grow e (a.1++b.1)))]⟩)
def buildG (tab:Tab) (t:TypeId) (nid:Nat) (x:V):RM Eff:=
 bind (lift ((tab t).bind (·.elem))) fun e=>bind (lift (tab e)) fun ty=>
 test (decide (ty.kinds.length=1)&&x.one) (ret ⟨.sl nid e 0 none,[(nid,some (.grow e [x]))]⟩)
def Zfl (tab:Tab) (t:TypeId):Bool:=match (tab t).bind (·.elem) with
 | some e=>match tab e with
  | some ⟨[.ptr],false,_,_,_⟩=>true
  | _=>false
 | none=>false
abbrev Fns:=FuncId→Option Func
abbrev RunC:=Code→St→Option (Ex×St)
def rmG (o:Oper) (s:St) (m:RM Eff):Option (St×Rec):=match m.run s.heap with
 | some (E,log,c)=>Zge c (some (s.app o.dst E,⟨log,E.upd.map (·.1),false⟩))
 | none=>none
def ZfM (ks:List Nat):V→Bool
 | .sl id _ _ _=>ks.contains id
 | .bp id _=>ks.contains id
 | .rp id _ _=>ks.contains id
 | .agg _=>false
 | .tup _=>false
 | .fn _ _=>false
 | _=>true
def okI (ks:List Nat):V→Bool
 | .agg cs=>cs.all (ZfM ks)
 | .tup cs=>cs.all (ZfM ks)
 | .fn _ cs=>cs.all (ZfM ks)
 | v=>ZfM ks v
def okBk (ks:List Nat):Option Blk→Bool
 | some (.box _ cs)=>cs.all (okI ks)
 | some (.grow _ cs)=>cs.all (okI ks)
 | some (.hrow ..)=>false
 | _=>true
def Zhe (hp:List (Nat×Option Blk)) (args:List V):Bool:=hp.all (fun p=>okBk (hp.map (·.1)) p.2)&&args.all (okI (hp.map (·.1)))
def ZdN (ks:List Nat):Nat:=List.rec 0 (fun k _ ih=>Nat.lor ih (Nat.shiftLeft 1 k)) ks
def inM (m k:Nat):Bool:=Nat.beq (Nat.land (Nat.shiftRight m k) 1) 1
def Zgn {α:Type} (p:α→Bool) (l:List α):Bool:=List.rec true (fun a _ ih=>bif p a then ih else false) l
def okM1 (m:Nat) (v:V):Bool:=V.casesOn (motive_1:=fun _=>Bool) v true (fun _ _=>true) (fun _=>true) (fun _=>true) (fun _=>false) (fun _=>false) (fun _=>true) (fun id _ _ _=>inM m id) (fun _ _=>true) (fun id _=>inM m id) (fun id _ _=>inM m id) (fun _ _=>true) (fun _ _=>true) (fun _ _ _=>true) (fun _ _=>true) (fun _ _=>false) (fun _ _=>true) (fun _=>true) true (fun _ _=>true) (fun _ _ _=>true)
def okM (m:Nat) (v:V):Bool:=V.casesOn (motive_1:=fun _=>Bool) v true (fun _ _=>true) (fun _=>true) (fun _=>true) (fun cs=>Zgn (okM1 m) cs) (fun cs=>Zgn (okM1 m) cs) (fun _=>true) (fun id _ _ _=>inM m id) (fun _ _=>true) (fun id _=>inM m id) (fun id _ _=>inM m id) (fun _ _=>true) (fun _ _=>true) (fun _ _ _=>true) (fun _ _=>true) (fun _ cs=>Zgn (okM1 m) cs) (fun _ _=>true) (fun _=>true) true (fun _ _=>true) (fun _ _ _=>true)
def okMk (m:Nat) (b:Option Blk):Bool:=Option.casesOn b true fun b=>Blk.casesOn b (fun _ cs=>Zgn (okM m) cs) (fun _ _ _=>true) (fun _ _=>true) (fun _ _ _ _ _=>false) (fun _ cs=>Zgn (okM m) cs)
def Zov (m:Nat) (hp:List (Nat×Option Blk)) (args:List V):Bool:=bif Zgn (fun p=>okMk m p.2) hp then Zgn (okM m) args else false
def Zlm (hp:List (Nat×Option Blk)) (args:List V):Bool:=Zov (ZdN (hp.map (·.1))) hp args
theorem ZiW {α:Type} (p:α→Bool):∀l:List α,Zgn p l=l.all p
 | []=>rfl
 | a :: r=>by
  show(bif p a then Zgn p r else false)=_
  rw[ZiW p r,List.all_cons]
  cases p a <;> rfl
theorem inM_eq (m k:Nat):inM m k=m.testBit k:=by
 unfold inM Nat.testBit
 show Nat.beq ((m >>> k) &&& 1) 1=((1 &&& (m >>> k)) != 0)
 rw[Nat.and_comm]
 have h:1 &&& (m >>> k)=0∨1 &&& (m >>> k)=1:=by
  rw[Nat.and_comm,Nat.and_one_is_mod];omega
 rcases h with h | h <;> rw[h] <;> rfl
theorem ZgZ:∀(ks:List Nat) (k:Nat),(ZdN ks).testBit k=ks.contains k
 | [],k=>by show Nat.testBit 0 k=_;simp
 | a :: r,k=>by
  show(ZdN r ||| (1 <<< a)).testBit k=_
  rw[Nat.testBit_or,ZgZ r k,Nat.one_shiftLeft,Nat.testBit_two_pow,List.contains_cons]
  by_cases h:a=k
  ·subst h;simp
  ·have:(k == a)=false:=by simpa using fun e=>h e.symm
   simp[h,this]
theorem okM1_eq (ks:List Nat) (v:V):okM1 (ZdN ks) v=ZfM ks v:=by
 have hk:∀k,inM (ZdN ks) k=ks.contains k:=fun k=>by rw[inM_eq,ZgZ]
 cases v <;> first | rfl | exact hk _
theorem okM_eq (ks:List Nat) (v:V):okM (ZdN ks) v=okI ks v:=by
 have hf:okM1 (ZdN ks)=ZfM ks:=funext fun v=>okM1_eq ks v
 have hk:∀k,inM (ZdN ks) k=ks.contains k:=fun k=>by rw[inM_eq,ZgZ]
 have ha:∀cs,Zgn (okM1 (ZdN ks)) cs=cs.all (ZfM ks):=fun cs=>by rw[ZiW,hf]
 cases v <;> first | rfl | exact hk _ | exact ha _
theorem Zo2 (hp:List (Nat×Option Blk)) (args:List V):Zlm hp args=Zhe hp args:=by
 unfold Zlm Zov Zhe
 have hf:okM (ZdN (hp.map (·.1)))=okI (hp.map (·.1)):=funext fun v=>okM_eq _ v
 have ha:∀cs,Zgn (okM (ZdN (hp.map (·.1)))) cs=cs.all (okI (hp.map (·.1))):=fun cs=>by rw[ZiW,hf]
 have hb:okMk (ZdN (hp.map (·.1)))=okBk (hp.map (·.1)):=by
  funext b
  cases b with
  | none=>rfl
  | some b=>cases b <;> first | rfl | exact ha _
 simp only[ZiW,hf,hb]
 cases(hp.all fun p=>okBk (hp.map (·.1)) p.2) <;> rfl
section
variable (cfg:Cfg) (fns:Fns) (rec:RunC) (dr:Bool)
def Zd8 (o:Oper) (s:St):Option (St×Rec):=rmG o s (ZbR cfg s.nid o s.ev)
def callG (o:Oper) (s:St) (fn:Func) (args:List V):Option (St×Rec):=match fn.body with
 | none=>none
 | some c=>bif Nat.ble args.length fn.ntmps&&(!dr||Zlm s.hp args) then match rec c { sl:=Zcq 0 args,hp:=s.hp,nid:=s.nid,lent:=[] } with
   | some (.exit _,_)=>none
   | some (_,s')=>match (ZeJ cfg.tab s' fn.results.toList).run s'.heap with
    | some (vs,_,cs)=>Zge cs (some ({ sl:=(match o.dst with | some d=>(d,ZfY vs) :: s.sl | none=>s.sl),hp:=s'.hp,nid:=s'.nid,lent:=s.lent },⟨s.hp.map (·.1),(s'.hp.take (s'.hp.length-s.hp.length)).reverse.map (·.1),!dr⟩))
    | none=>none
   | none=>none
  else none
def opG (o:Oper) (s:St):Option (St×Rec):=match o.op with
 | .call c=>match c.callee with
  | .value f=>match sft s.ev f with
   | .fn g caps=>match fns g with
    | some fn=>callG cfg rec dr o s fn (c.args.toList.map (sft s.ev)++caps)
    | none=>Zd8 cfg o s
   | _=>none
  | .builtin .append=>match c.argTypes.toList,c.args.toList with
   | [t,t2],[x,y]=>bif Zfl cfg.tab t then rmG o s (appendG cfg.tab t t2 s.nid (sft s.ev x) (sft s.ev y)) else Zd8 cfg o s
   | _,_=>none
  | _=>Zd8 cfg o s
 | .buildSlice t n ps=>bif Zfl cfg.tab t then match n,ps.toList with
   | 1,[(0,x)]=>rmG o s (buildG cfg.tab t s.nid (sft s.ev x))
   | _,_=>none
  else Zd8 cfg o s
 | _=>Zd8 cfg o s
def xPick (ev:Operand→V) (c a b:Operand):RM Eff:=match ev c with
 | .bool t=>ret ⟨if t then ev a else ev b,[]⟩
 | _=>fail
def xAlloc (nid T:Nat):RM Eff:=bind (lift (cfg.tab T)) fun ty=>ret ⟨.bp nid 0,[(nid,some (.box T (ty.kinds.map ZcJ)))]⟩
def xBox (nid T:Nat) (x:V):RM Eff:=bind (lift (cfg.tab T)) fun ty=>
 test (decide (x.cells.length=ty.kinds.length)&&x.cells.all V.one) (ret ⟨.bp nid 0,[(nid,some (.box T (Z2 cfg.tab ty.kinds x.cells)))]⟩)
def xBuild (T:Nat) (ps:List (Nat×V)):RM Eff:=bind (lift (cfg.tab T)) fun ty=>
 bind (lift (Zd1 (fun i=>ty.fields[i]?.bind fun fd=>(cfg.tab fd.2).map fun ft=>(fd.1,ft.kinds.length)) (ty.kinds.map ZcJ) ps)) fun cs=>
 test (ty.agg&&ps.all fun p=>p.2.cells.all V.one) (ret ⟨.agg (Z2 cfg.tab ty.kinds cs),[]⟩)
def xRow (nid t n:Nat) (ps:List (Nat×V)):RM Eff:=bind (lift ((cfg.tab t).bind (·.elem))) fun e=>bind (lift (cfg.tab e)) fun ty=>
 test (Zga cfg.tab ty&&decide (n*ty.kinds.length≤16777216)) <|
 bind (Ze6 cfg.tab ty (List.replicate n (ZdJ ty)) ps) fun r=>test (ZbX r.2.2) (ret ⟨.sl nid e 0 none,ended r.2.2++[(nid,some (.row e r.2.1 r.1))]⟩)
def xStore (t:Nat) (p x:V):RM Eff:=bind (Zgc cfg.tab t p x) fun u=>ret ⟨.dead,u⟩
def xNil:V→RM Eff
 | .bp id off=>ret ⟨.bp id off,[]⟩
 | .rp id i off=>ret ⟨.rp id i off,[]⟩
 | .ep cs off=>ret ⟨.ep cs off,[]⟩
 | .fn f caps=>ret ⟨.fn f caps,[]⟩
 | _=>fail
def x1 (m:RM V):RM Eff:=bind m fun v=>ret ⟨v,[]⟩
def xBin (op:BinOp) (t:Nat) (x y:V) (x0:V) (nil:Bool):RM Eff:=match nil with
 | true=>bind (lift ((cfg.tab t).bind (·.elem))) fun _=>x1 (lift (nilV op x0))
 | false=>test (Zhm op y) (x1 (lift (binL cfg.tab t op x y)))
def xConv (nid s d:Nat):V→RM Eff
 | .str l=>match cfg.rof ownCv with
  | true=>Zgz cfg.tab nid s d l
  | false=>ZjB cfg.tab s d l
 | .sl id T 0 none=>match slDst cfg.tab d with
  | true=>Zh6 cfg.tab s d id
  | false=>x1 (Zgy cfg.tab s d (.sl id T 0 none))
 | y=>x1 (Zgy cfg.tab s d y)
def xFn (fn:Fn) (first captured:Array Operand) (ev:Operand→V):RM Eff:=match fn with
 | .func f=>test first.toList.isEmpty (ret ⟨.fn f (captured.toList.map ev),[]⟩)
 | _=>fail
def xIdx (t:Nat) (x i:V):RM Eff:=match x,i with
 | .str l, .int _ n=>test (isStr cfg.tab t&&Zn n l.length) (ret ⟨.int .u8 (l.getD n.toNat .dead).I,[]⟩)
 | _,_=>fail
def xExt (x:V) (i:Nat):RM Eff:=match x with
 | .tup vs=>x1 (lift vs[i]?)
 | _=>fail
def xCall (o:Oper) (s:St) (c:Call):Option (St×Rec):=match c.callee with
 | .value f=>match sft s.ev f with
  | .fn g caps=>match fns g with
   | some fn=>callG cfg rec dr o s fn (c.args.toList.map (sft s.ev)++caps)
   | none=>rmG o s (Zj5 cfg s.nid g (c.args.toList.map (sft s.ev)++caps))
  | _=>none
 | .builtin .append=>match c.argTypes.toList,c.args.toList with
  | [t,t2],[x,y]=>bif Zfl cfg.tab t then rmG o s (appendG cfg.tab t t2 s.nid (sft s.ev x) (sft s.ev y)) else rmG o s (Ze5 cfg.tab t t2 s.nid (sft s.ev x) (sft s.ev y))
  | _,_=>none
 | .builtin b=>rmG o s (ZeD cfg s.nid b c.argTypes.toList (c.args.toList.map (sft s.ev)))
 | _=>none
def ZmN (o:Oper) (s:St) (t n:Nat) (ps:Array (Nat×Operand)):Option (St×Rec):=bif Zfl cfg.tab t then match n,ps.toList with
  | 1,[(0,x)]=>rmG o s (buildG cfg.tab t s.nid (sft s.ev x))
  | _,_=>none
 else rmG o s (xRow cfg s.nid t n (Zct (sft s.ev) ps))
def opF (o:Oper) (s:St):Option (St×Rec):=Op.casesOn (motive:=fun _=>Option (St×Rec)) o.op
 (fun x=>rmG o s (ret ⟨typed cfg.tab o.type (s.ev x),[]⟩)) (fun x=>rmG o s (ret ⟨typed cfg.tab o.type (s.ev x),[]⟩))
 (fun c a b=>rmG o s (xPick (sft s.ev) c a b)) (fun T=>rmG o s (xAlloc cfg s.nid T)) (fun T x=>rmG o s (xBox cfg s.nid T (sft s.ev x))) (fun T ps=>rmG o s (xBuild cfg T (Zct (sft s.ev) ps)))
 (fun t n ps=>ZmN cfg o s t n ps) (fun _ _ _ _=>none) (fun t p=>rmG o s (ZiO cfg.tab s.nid t (sft s.ev p))) (fun t p x=>rmG o s (xStore cfg t (sft s.ev p) (sft s.ev x))) (fun _=>none) (fun _=>none)
 (fun x=>rmG o s (xNil (sft s.ev x))) (fun op t x y _=>rmG o s (xBin cfg op t (sft s.ev x) (sft s.ev y) (s.ev x) (ZjZ y))) (fun op _ x=>rmG o s (x1 (lift (unV op (sft s.ev x))))) (fun a d x=>rmG o s (xConv cfg s.nid a d (sft s.ev x)))
 (fun _ _=>none) (fun _ _=>none) (fun fn f c=>rmG o s (xFn fn f c (sft s.ev))) (fun _ _=>none) (fun _ _=>none) (fun t n c=>rmG o s (Zdy cfg.tab t s.nid (sft s.ev n) (sft s.ev c)))
 (fun t x lo hi mx=>rmG o s (x1 (Zfx cfg.tab t (sft s.ev x) (lo.map (sft s.ev)) (hi.map (sft s.ev)) (mx.map (sft s.ev))))) (fun t x f=>rmG o s (x1 (lift (Zj0 cfg.tab t (sft s.ev x) f)))) (fun t x f=>rmG o s (x1 (lift (ZiN cfg.tab t (sft s.ev x) f))))
 (fun t x i=>rmG o s (x1 (Zec cfg.tab t (sft s.ev x) (sft s.ev i)))) (fun t x i=>rmG o s (xIdx cfg t (sft s.ev x) (sft s.ev i))) (fun _ _ _ _=>none) (fun _ _ _ _=>none) (fun _ _ _=>none) (fun _ _ _ _=>none) (fun _ _=>none) (fun _ _=>none) (fun _=>none)
 (fun _ _ _ _=>none) (fun x i=>rmG o s (xExt (sft s.ev x) i)) (fun c=>xCall cfg fns rec dr o s c) (fun _=>none) (fun _=>none) (fun _=>none) (fun _ _=>none) (fun _ _ _=>none) (fun _ _=>none)
theorem opF_eq (o:Oper) (s:St):opF cfg fns rec dr o s=opG cfg fns rec dr o s:=by
 obtain⟨dst,op,type,pos,after,guard⟩:=o
 cases op
 case buildSlice t n ps=>
  show ZmN cfg _ s t n ps=_
  unfold ZmN opG
  simp only[]
  cases Zfl cfg.tab t <;> rfl
 case index t x i=>
  show rmG _ s (xIdx cfg t (sft s.ev x) (sft s.ev i))=_
  rfl
 case makeFunc fn f c=>cases fn <;> rfl
 case call c=>
  show xCall cfg fns rec dr _ s c=_
  unfold xCall opG
  simp only[]
  cases hc:c.callee with
  | value f=>
   simp only[]
   cases hf:sft s.ev f with
   | fn g caps=>
    simp only[]
    cases hg:fns g with
    | some fn=>rfl
    | none=>
     simp only[Zd8,ZbR,hc]
     have hf':sft s.ev f = .fn g caps:=hf
     simp only[hf']
   | _=>rfl
  | builtin b=>
   cases b
   case append=>
    simp only[]
    split
    ·rename_i t t2 x y ht hx
     cases Zfl cfg.tab t with
     | true=>rfl
     | false=>simp only[cond_false,Zd8,ZbR,hc,ht,hx,List.map_cons,List.map_nil,ZeD]
    ·rfl
   all_goals simp only[Zd8,ZbR,hc]
  | invoke r m=>simp only[Zd8,ZbR,hc];rfl
 all_goals rfl
def Zfb (all:List Oper):List Oper→St→List Rec→Option (St×List Rec)
 | [],s,tr=>some (s,tr)
 | o :: r,s,tr=>match o.guard with
  | none=>match opF cfg fns rec dr o s with
   | some (s,x)=>Zfb all r s (x :: tr)
   | none=>none
  | some (j,want)=>match all[j]?.bind (·.dst) with
   | none=>none
   | some t=>match s.slot t with
    | .bool b=>bif b == want then match opF cfg fns rec dr o s with
      | some (s,x)=>Zfb all r s (x :: tr)
      | none=>none
     else Zfb all r (s.put o.dst .sk) (⟨[],[],false⟩ :: tr)
    | .sk=>Zfb all r (s.put o.dst .sk) (⟨[],[],false⟩ :: tr)
    | _=>none
end
abbrev Zeu:=Nat→Option (List Nat)
def insideG (h:List (Nat×Option Blk)) (id:Nat):List Nat:=match look h id with
 | some (some (.box _ cs))=>cs.flatMap ids1
 | some (some (.grow _ cs))=>cs.flatMap ids1
 | _=>[]
def ZkD (h:List (Nat×Option Blk)):Nat→List Nat→List Nat
 | 0,ids=>ids
 | n+1,ids=>ZkD h n (ZcX ids (ids.flatMap (insideG h)))
def canonG (keep:List Nat) (s:St):St:=ZiQ keep s (ZkD s.hp 4 (ZcX (ZcX [] s.lent) (keep.flatMap fun t=>idsV (s.slot t))))
def ZkE (cn:Zeu) (k:Nat) (s:St):St:=match cn k with
 | some keep=>canonG keep s
 | none=>s
def ZfZ (cfg:Cfg) (fns:Fns) (rec:Zeu→RunC) (cn:Zeu):RunC
 | .skip,s=>some (.normal,s)
 | .label _,s=>some (.normal,s)
 | .region _ ops draw,s=>match Zfb cfg fns (rec fun _=>none) draw ops.toList ops.toList s [] with
  | some (s,tr)=>bif !draw||(Zd3 tr||Zc6 (CheckFast.beforeF ops).toList 0 tr.reverse) then some (.normal,s) else none
  | none=>none
 | .seq a b,s=>match rec cn a s with
  | some (.normal,s')=>rec cn b s'
  | r=>r
 | .cond c a b,s=>match c with
  | .tmp t=>match s.slot t with
   | .bool x=>bif x then rec cn a s else rec cn b s
   | _=>none
  | .const (.bool true)=>rec cn a s
  | .const (.bool false)=>rec cn b s
  | _=>none
 | .block id a,s=>match rec cn a s with
  | some (.exit j,s')=>bif Nat.beq j id then some (.normal,s') else some (.exit j,s')
  | r=>r
 | .loop a,s=>match rec cn a s with
  | some (.normal,s')=>rec cn (.loop a) (ZkE cn (Zbo a) s')
  | r=>r
 | .exit id,s=>some (.exit id,s)
 | .ret,s=>some (.ret,s)
 | _,_=>none
def ZiX (cfg:Cfg) (fns:Fns) (n:Nat):Zeu→RunC:=Nat.rec (fun _ _ _=>none) (fun _ ih=>ZfZ cfg fns ih) n
def Zdl (cfg:Cfg) (fns:Fns) (cn:Zeu) (n:Nat) (fn:Func) (args:List V):Option (V×List V):=match fn.body with
 | none=>none
 | some c=>match ZiX cfg fns n cn c (ZiR args) with
  | some (.exit _,_)=>none
  | some (_,s)=>kept (args.flatMap lkOf) (Zgf cfg.tab fn.results.toList (ZeR (Zef cfg.tab s s.lent) []))
  | none=>none
def Zgo (cfg:Cfg) (fns:Fns) (fuel:Nat) (fn:Func):List V→Option (V×List V)
 | [.inl T l]=>match Zdl cfg fns (fun _=>none) fuel fn [.nn T l] with
  | some (.rr T' o l',[])=>bif l.isEmpty then match Zdl cfg fns (fun _=>none) fuel fn [.nl T] with
    | some (.nil _,[])=>bif l'.isEmpty&&(cfg.tab T').isSome then some (.rr T' o l',[]) else none
    | _=>none
   else some (.rr T' o l',[])
  | _=>none
 | _=>none
def ZeM (P:Program) (cfg:Cfg) (fns:Fns) (fl cl:List Nat) (cnf:Nat→Zeu) (fuel:Nat) (n:Nat):Sums:=Nat.rec cfg.sums (fun _ ih f args=>match cfg.sums f args with
 | some r=>some r
 | none=>bif fl.contains f then match P.funcs[f]? with
   | some fn=>bif Nat.ble args.length fn.ntmps then match bif cl.contains f then Zgo { cfg with sums:=ih } fns fuel fn args else Zdl { cfg with sums:=ih } fns (cnf f) fuel fn args with
     | some r=>some (true,r)
     | none=>none
    else none
   | none=>none
  else none) n
section
variable {P:Program} {tab:Tab}
theorem ZkF {E:Entry} {M:Mem} (hM:MemOk tab E M) {e:TypeId} {ty:Ty} (he:tab e=some ty) {s:V} {sv:Value} {l:List V} {K log:List Nat} (hs:M.Rs tab E s sv) (h:gEls e s M.hp=some ((l,K),log)):
  ∃a cap xs,sv = .slice a l.length cap∧RowIs M.w e ty.kinds.length l.length (.slice a l.length cap) xs∧(∀j,j<l.length→M.Rs tab E (l.getD j .dead) (xs.getD j undef))∧∀g∈Zr (.slice a l.length cap),∃k∈K,g∈M.top k:=by
 cases s with
 | nil T=>
  cases Zm (h:=M.hp) h
  obtain⟨a,rfl⟩:=hs.nil
  have ht:Zr (.slice a 0 0)=[]:=by cases a <;> rfl
  exact⟨a,0,[],rfl,⟨by simp, .inl ⟨a,rfl,rfl⟩⟩,by simp,fun g hg=>by rw[List.length_nil,ht] at hg;cases hg⟩
 | sl id T off len=>
  cases off with
  | succ n=>exact(Zo (h:=M.hp) h).elim
  | zero=>
   cases len with
   | some n=>exact(Zo (h:=M.hp) h).elim
   | none=>
    obtain⟨blk,l1,b1,l1',h6,h7,h8⟩:=Zj (h:=M.hp) h
    cases h8
    obtain⟨h6,-⟩:=ZaH h6
    cases blk with
    | grow T' cs=>
     obtain⟨hte,h7'⟩:=Zw h7
     obtain rfl:T'=e:=by simpa using hte
     cases Zm h7'
     obtain⟨ty',v,xs,q1,q2,q3,q4,q5,q6,q7⟩:=hM.blocks id _ h6
     obtain rfl:ty=ty':=Option.some.inj (he.symm.trans q1)
     cases hs with
     | tree hs=>cases hs
     | sl _ _ _ _ sz N a a' cap n k1 k2 k3 k4 k5 k6=>
      have e:=q3.symm.trans k1
      simp only[Option.some.injEq,RB.row.injEq] at e
      obtain⟨rfl,rfl,rfl,rfl⟩:=e
      obtain rfl:=k6 rfl
      simp only[Option.getD_none,Nat.sub_zero] at k3
      subst k3
      exact⟨a',cap,xs,by rw[Nat.sub_zero],q4,q5,fun g hg=>⟨id,by simp,by rw[q6];exact hg⟩⟩
    | _=>exact(Zo h7).elim
 | _=>exact(Zo (h:=M.hp) h).elim
theorem ZpJ {w w':World} {T sz N cap:Nat} {a:Option Addr} {xs:List Value} (h:RowIs w T sz N (.slice a N cap) xs) (hw:∀g,g<w.heap.size→w'.heap[g]? = w.heap[g]?):
  (Builtin.firstCells sz N (.slice a N cap)).run P w' = .ok xs.toArray w':=by
 have h':=h.keep (w':=w') fun g hg=>hw g (h.top_lt g hg)
 rcases h'.2 with⟨b,e3,h0⟩ | ⟨g,cap',cur,e3,hc',hg,hNc,hcm,hcs,htk⟩
 ·have hx0:xs=[]:=List.eq_nil_of_length_eq_zero (by rw[h'.1,h0];simp)
  rw[h0,hx0]
  cases a <;> simp[Builtin.firstCells,loadCells,loadCellsFrom]
 ·simp only[Value.slice.injEq] at e3
  obtain⟨rfl,-,rfl⟩:=e3
  refine run_firstCells_some (P:=P) w' sz N _ _ _ _ h'.1 fun j v hv=>?_
  have hj:j<xs.length:=(List.getElem?_eq_some_iff.1 hv).1
  obtain⟨g',cap',e4,_,_,hcell⟩:=h'.cell j (by rw[←h'.1];exact hj)
  cases e4
  rw[Addr.add_none,Nat.zero_add,hcell]
  simp[List.getD,hv]
theorem ZmO {α:Type} (a b:List α) (d:α) (j:Nat):(a++b).getD j d=if j<a.length then a.getD j d else b.getD (j-a.length) d:=by
 simp only[List.getD,List.getElem?_append];split <;> rfl
theorem ZlK {E:Entry} {M:Mem} (hM:MemOk tab E M) {nid:Nat} (hn:M.hp nid=none) {e:TypeId} {ty:Ty} (he:tab e=some ty) (h1:ty.kinds.length=1) {l:List V} {vals:List Value} {K:List Nat}
  {w':World} {v:Value} (hrow:RowIs w' e ty.kinds.length l.length v vals) (hl:∀j,j<l.length→M.Rs tab E (l.getD j .dead) (vals.getD j undef))
  {F:List Nat} (hk:KeptBut F M.w w') (hF:∀g∈F,∃k∈K,g∈M.top k) (hv:∀g∈Zr v,g∈F∨M.w.heap.size≤g):
  ∃M',M'.w=w'∧StepOk tab E M ⟨.sl nid e 0 none,ended K++[(nid,some (.grow e l))]⟩ v M':=by
 have hnd:(Zr v++[]).Nodup:=by
  rw[List.append_nil]
  rcases hrow.2 with⟨a,rfl,_⟩ | ⟨g,cap,cur,rfl,_⟩
  ·cases a <;> simp[Zr]
  ·cases cap <;> simp[Zr]
 have main:=Zg7 hM w' K nid (.row e ty.kinds.length l.length v) (.grow e l) (Zr v) [] (.inl (hM.fresh nid hn).1) hk.os hk.tape hk.output hk.size
  (fun g hg hno=>hk.block g hg fun hgF=>by obtain⟨k,hkK,hgk⟩:=hF g hgF;exact hno k (.inr hkK) hgk)
  (fun g hg=>(hv g hg).imp (fun hgF=>by obtain⟨k,hkK,hgk⟩:=hF g hgF;exact⟨k, .inr hkK,hgk⟩) id)
  (fun g hg=>by cases hg) hnd (fun g hg=>hrow.top_lt g (by simpa using hg))
  fun hle=>⟨ty,v,vals,he,h1,rfl,hrow,fun j hj=>hle.rs (hl j hj),rfl,rfl⟩
 refine⟨_,rfl,main.1,main.2,by rw[Zkg],?_⟩
 have hnc:∃a cap,v = .slice a l.length cap∧l.length≤cap:=by
  rcases hrow.2 with⟨a,rfl,h0⟩ | ⟨g,cap,cur,rfl,_,_,hnc,_⟩
  ·exact⟨a,0,by rw[h0],by omega⟩
  ·exact⟨_,cap,rfl,hnc⟩
 obtain⟨a,cap,rfl,hc⟩:=hnc
 exact .sl nid e 0 none ty.kinds.length l.length a a cap l.length (by simp[Mem.put]) hc (by simp) (by omega) (fun _=>by cases a <;> simp[Addr.add_zero']) (fun _=>rfl)
theorem Zl8 (hT:ZB P tab) {E:Entry} {M:Mem} (hM:MemOk tab E M) {nid:Nat} (hn:M.hp nid=none) {t t2 ot:TypeId} {s x:V} {sv xv:Value} {Ef:Eff} {log:List Nat}
  (hs:M.Rs tab E s sv) (hx:M.Rs tab E x xv) (h:appendG tab t t2 nid s x M.hp=some (Ef,log)):
  ∃M' val,(Builtin.append_ #[t,t2] ot #[sv,xv]).run P M.w = .ok val M'.w∧StepOk tab E M Ef val M':=by
 unfold appendG at h
 obtain⟨e,l1,b1,l1',h1,h2,h3⟩:=Zj h
 cases h3
 obtain⟨h1,-⟩:=Zu h1
 obtain⟨ty0,h0,h1⟩:=Option.bind_eq_some_iff.1 h1
 obtain⟨ty,l2,b2,l2',h3,h4,h5⟩:=Zj h2
 cases h5
 obtain⟨h3,-⟩:=Zu h3
 have hu:=((hT t ty0 h0).elem e h1).1
 obtain⟨⟨bl,bK⟩,l3,b3,l3',h5,h6,h7⟩:=Zj h4
 cases h7
 obtain⟨⟨ml,mK⟩,l4,b4,l4',h7,h8,h9⟩:=Zj h6
 cases h9
 obtain⟨h9,h10⟩:=Zw h8
 cases Zm h10
 simp only[Bool.and_eq_true,decide_eq_true_eq] at h9
 obtain⟨hk1,hone,hseq,hroom,hdis⟩:=h9
 have hroom':bl.length+ml.length≤9223372036854775807∧(bl.length+ml.length)*ty.bytes≤140737488355328:=by
  simpa [Zv] using hroom
 obtain⟨a,cap,xs,rfl,r1,r2,r3⟩:=ZkF hM h3 hs h5
 obtain⟨a2,cap2,ys,rfl,m1,m2,m3⟩:=ZkF hM h3 hx h7
 have hxl:xs.length=bl.length:=by rw[r1.1,hk1,Nat.mul_one]
 have hyl:ys.length=ml.length:=by rw[m1.1,hk1,Nat.mul_one]
 obtain⟨v',w',hr,k1,k2,k3⟩:=ZfV (P:=P) hu (hT e ty h3) (Zki hT hseq) (ot:=ot) r1 (Nat.le_refl _) (xv:=.slice a2 ml.length cap2) m1.1 (fun v hv=>by
   obtain⟨j,hj,rfl⟩:=List.mem_iff_getElem.1 hv
   have hm:=m2 j (by omega)
   rw[Zcu _ _ _ hj] at hm
   refine hm.one' ?_
   rw[Zcu _ _ _ (by omega:j<ml.length)]
   exact List.all_eq_true.1 hone _ (List.getElem_mem _)) (fun w'=>by simp[Builtin.lenOf]) (fun w' hw'=>ZpJ m1 hw') hroom'.1 hroom'.2
 have htk:xs.take (bl.length*ty.kinds.length)=xs:=by rw[←r1.1,List.take_length]
 rw[htk] at k1
 have hgl:∀j,j<(bl++ml).length→M.Rs tab E ((bl++ml).getD j .dead) ((xs++ys).getD j undef):=fun j hj=>by
  rw[ZmO,ZmO,hxl]
  rw[List.length_append] at hj
  split
  ·rename_i hc;exact r2 j hc
  ·exact m2 _ (by omega)
 obtain⟨M',hw,hstep⟩:=ZlK (K:=bK++mK) (l:=bl++ml) hM hn h3 hk1 (by rw[List.length_append];exact k1) hgl k2 (fun g hg=>by obtain⟨k,hk,hgk⟩:=r3 g hg;exact⟨k,List.mem_append_left _ hk,hgk⟩)
  (fun g hg=>(k3 g hg).imp id fun e=>by omega)
 exact⟨M',v',by rw[hw];exact hr,hstep⟩
theorem ZmP (hT:ZB P tab) {E:Entry} {M:Mem} (hM:MemOk tab E M) {nid:Nat} (hn:M.hp nid=none) {t:TypeId} {x:V} {v:Value} {Ef:Eff} {log:List Nat}
  (hx:M.Rs tab E x v) (h:buildG tab t nid x M.hp=some (Ef,log)):∃M' val,(Instr.buildSlice t 1 #[(0,v)]).run P M.w = .ok val M'.w∧StepOk tab E M Ef val M':=by
 unfold buildG at h
 obtain⟨e,l1,b1,l1',h1,h2,h3⟩:=Zj h
 cases h3
 obtain⟨h1,-⟩:=Zu h1
 obtain⟨ty0,h0,h1⟩:=Option.bind_eq_some_iff.1 h1
 obtain⟨ty,l2,b2,l2',h3,h4,h5⟩:=Zj h2
 cases h5
 obtain⟨h3,-⟩:=Zu h3
 obtain⟨h9,h10⟩:=Zw h4
 cases Zm h10
 simp only[Bool.and_eq_true,decide_eq_true_eq] at h9
 obtain⟨hk1,hone⟩:=h9
 have hcx:x.cells=[x]:=by cases x <;> first | rfl | cases hone
 have hone:x.cells.all V.one=true:=by rw[hcx];simpa using hone
 have hu:=((hT t ty0 h0).elem e h1).1
 have hty:=hT e ty h3
 obtain⟨i,z,hi,hs,hb,hz',hzc,-⟩:=hty.info
 have hzs:z.cells.size=ty.kinds.length:=by rw[←Array.length_toList,hzc];simp
 obtain⟨c1,c2,-⟩:=Zc7 hx hone
 rw[hcx] at c1 c2
 have hvs:v.cells.size=ty.kinds.length:=by rw[←Array.length_toList,c1,hk1];rfl
 have e3:Instr.fill (fun i=>some (i*ty.kinds.length,ty.kinds.length)) (madeCells z.cells (1*ty.kinds.length)) [(0,v)]=some v.cells:=by
  rw[Zie _ _ 0 (0*ty.kinds.length) ty.kinds.length v [] rfl hvs (by simp[madeCells])]
  simp only[Instr.fill,Option.some.injEq]
  apply Array.ext'
  have hm:(madeCells z.cells (1*ty.kinds.length)).toList.drop (0*ty.kinds.length+v.cells.toList.length)=[]:=by
   apply List.drop_eq_nil_of_le
   simp[madeCells,hvs]
  rw[hm];simp
 have hrun:(Instr.buildSlice t 1 #[(0,v)]).run P M.w = .ok (.slice (some ⟨M.w.heap.size,0,none⟩) 1 1) (M.w.alloc (.cells v.cells e)):=by
  have hc2:¬(1*ty.kinds.length > 2 ^ 24):=by omega
  have hsz:=hty.sizeOf M.w
  have hzv:(zeroValue e).run P M.w = .ok z M.w:=by simp only[zeroValue,Sem.run_bind,typeInfo,run_program,Result.andThen_ok,hi,Sem.run_pure,hz']
  have hz0:¬1*ty.kinds.length=0:=by omega
  have hv0:madeCells z.cells (1*ty.kinds.length)=(Array.range (1*ty.kinds.length)).map (fun x=>z.cells[x % z.cells.size]!):=rfl
  rw[hv0] at e3
  simp only[Instr.buildSlice,Sem.run_bind,run_underlying hu,Result.andThen_ok,hsz,Sem.run_ite,if_neg hc2,if_neg hz0,hzv,Sem.run_pure,e3,newRow,run_newObj,World.alloc]
 have hrow:=Zif (w:=M.w) (T:=e) (sz:=ty.kinds.length) (n:=1) (cur:=v.cells) (by rw[hvs,Nat.one_mul]) (by simp[maxLen])
 obtain⟨M',hw,hst⟩:=ZlK (K:=[]) (l:=[x]) (vals:=v.cells.toList) hM hn h3 hk1 hrow (fun j hj=>c2 j (by simpa using hj)) (F:=[]) ⟨rfl,rfl,rfl,by simp,fun g hg _=>heap_alloc_old _ _ _ hg⟩ (fun g hg=>by cases hg) ZgQ
 exact⟨M',_,by rw[hw];exact hrun,hst⟩
def ZhI (P:Program) (fns:Fns):Prop:=∀g fn,fns g=some fn→P.funcs[g]? = some fn∧(fn.name == "runtime.NumGoroutine")=false∧∀c,fn.body=some c→ZaY fn.ntmps c=true
def Keys (s s':St):Prop:=∃l,s'.hp=l++s.hp
def Zev (s:St):Prop:=∀id,s.nid≤id→s.heap id=none
def RecOk (P:Program) (tab:Tab) (E:Entry) (rec:RunC):Prop:=∀c s e s',rec c s=some (e,s')→(Keys s s'∧(Zev s→Zev s'))∧∀N ps,ZaY N c=true→∀M a,Rel tab E N ps M s a→∀Q:Exit→Act→World→Prop,
 (∀M' a',Rel tab E N ps M' s' a'→MemLe E M M'→Q (ZfA e) a' M'.w)→c.wp P Q a M.w
theorem Local.appendG (tab:Tab) (t t2:TypeId) (nid:Nat) (s x:V):Local (appendG tab t t2 nid s x):=by
 have hg:∀e v,Local (gEls e v):=fun e v=>by
  unfold gEls
  repeat' (first | exact Local.ret _ | exact Local.fail | exact Local.get _ | (refine Local.bind ?_ fun _=>?_) | (refine Local.test _ ?_) | split)
 unfold Eng.appendG
 repeat' (first | exact Local.ret _ | exact hg _ _ | exact Local.lift _ | (refine Local.bind ?_ fun _=>?_) | (refine Local.test _ ?_))
theorem Local.buildG (tab:Tab) (t:TypeId) (nid:Nat) (x:V):Local (buildG tab t nid x):=by
 unfold Eng.buildG
 repeat' (first | exact Local.ret _ | exact Local.lift _ | (refine Local.bind ?_ fun _=>?_) | (refine Local.test _ ?_))
theorem Zow {o:Oper} {s s1:St} {r:Rec} {m:RM Eff} (h:rmG o s m=some (s1,r)):∃Ef,m s.heap=some (Ef,r.log)∧s1.F=ZaN s.F ⟨o.dst,Ef.v,Ef.upd,r.log⟩∧r.mods=Ef.upd.map (·.1)∧r.all=false∧s1.nid=ZcW s.nid Ef.upd∧s1.lent=s.lent:=by
 unfold rmG at h
 split at h
 ·rename_i E l c he
  obtain⟨hc,h⟩:=Zeh h
  cases h
  exact⟨E,rm_at.2 ⟨c,he,hc⟩,app_F s o.dst E l,rfl,rfl,rfl,rfl⟩
 ·cases h
def EffX (P:Program) (tab:Tab) (E:Entry) (o:Oper) (s s1:St) (r:Rec):Prop:=
 ∃Ef:Eff,s1.F=ZaN s.F ⟨o.dst,Ef.v,Ef.upd,r.log⟩∧r.mods=Ef.upd.map (·.1)∧s1.lent=s.lent∧(∀id,s1.nid≤id→s1.heap id=none)∧
  ∀F':Fs,(∀x∈o.op.operands,ev F'.sl x=s.ev x)→(∀k∈r.log,F'.hp k=s.heap k)→(r.all=true→F'.hp=s.heap)→(∀k∈r.mods,F'.hp k=s.heap k)→
   ∀(M:Mem) (a:Act),MemOk tab E M→M.hp=F'.hp→Slots tab E M F'.sl a→∀Q:Exit→Act→World→Prop,o.wp P a M.w (OpOk tab E M o a Ef) Q
theorem ZnZ {t t2:TypeId} {nid:Nat} {s x:V} {hp:ZaG} {Ef:Eff} {log:List Nat} (h:appendG tab t t2 nid s x hp=some (Ef,log)):nid∈Ef.upd.map (·.1):=by
 obtain⟨e,l1,b1,l1',h1,h2,h3⟩:=Zj h
 obtain⟨ty,l2,b2,l2',h4,h5,h6⟩:=Zj h2
 obtain⟨base,l3,b3,l3',h7,h8,h9⟩:=Zj h5
 obtain⟨more,l4,b4,l4',h10,h11,h12⟩:=Zj h8
 obtain⟨-,h13⟩:=Zw h11
 cases Zm h13
 cases h12;cases h9;cases h6;cases h3
 simp
theorem Zo3 {t:TypeId} {nid:Nat} {x:V} {hp:ZaG} {Ef:Eff} {log:List Nat} (h:buildG tab t nid x hp=some (Ef,log)):nid∈Ef.upd.map (·.1):=by
 obtain⟨e,l1,b1,l1',h1,h2,h3⟩:=Zj h
 obtain⟨ty,l2,b2,l2',h4,h5,h6⟩:=Zj h2
 obtain⟨-,h13⟩:=Zw h5
 cases Zm h13
 cases h6;cases h3
 simp
theorem ZiY (hp:ZaG) (l:List (Nat×Option Blk)) (i:Nat):ZW hp l.reverse i=match look l i with | some b=>some b | none=>hp i:=by
 have key:∀(u:List (Nat×Option Blk)) (p:Nat×Option Blk) (hp:ZaG),ZW hp (u++[p]) i=if i=p.1 then some p.2 else ZW hp u i:=by
  intro u
  induction u with
  | nil=>intro p hp;rfl
  | cons q u ih=>intro p hp;exact ih p _
 induction l with
 | nil=>rfl
 | cons p l ih=>
  obtain⟨j,b⟩:=p
  rw[List.reverse_cons,key,ZF]
  by_cases e:i=j
  ·rw[if_pos e,if_pos e]
  ·rw[if_neg e,if_neg e];exact ih
theorem Zn0 {α:Type} (l r:List (Nat×α)) (i:Nat):look (l++r) i=match look l i with | some b=>some b | none=>look r i:=by
 induction l with
 | nil=>rfl
 | cons p l ih=>
  obtain⟨j,b⟩:=p
  rw[List.cons_append,ZF,ZF]
  by_cases e:i=j
  ·rw[if_pos e,if_pos e]
  ·rw[if_neg e,if_neg e];exact ih
theorem ZjJ {α:Type} {l:List (Nat×α)} (k:Nat):k∈l.map (·.1)↔look l k≠none:=by
 induction l with
 | nil=>simp[Zgd]
 | cons p l ih=>
  obtain⟨j,x⟩:=p
  rw[ZF]
  by_cases e:k=j
  ·simp[e]
  ·rw[if_neg e,←ih];simp[e]
theorem okI_rs {w:World} {ok ok':Nat→Prop} {ρ ρ':Nat→Option RB} {ks:List Nat} {v:V} {x:Value} (hv:okI ks v=true) (h:Rs tab w ok ρ v x) (hρ:∀k∈ks,ρ' k=ρ k) (hok:∀g,ok g→ok' g):Rs tab w ok' ρ' v x:=by
 have one:∀{v:V} {x:Value},ZfM ks v=true→Rs tab w ok ρ v x→Rs tab w ok' ρ' v x:=fun hv h=>by
  cases h with
  | tree h=>exact .tree (h.keep hok fun _ _=>rfl)
  | sl id T off len sz N a a' cap n h1 h2 h3 h4 h5 h6=>exact .sl id T off len sz N a a' cap n (by rw[hρ id (by simpa [ZfM] using hv)];exact h1) h2 h3 h4 h5 h6
  | bp id off g h1=>exact .bp id off g (by rw[hρ id (by simpa [ZfM] using hv)];exact h1)
  | rp id idx off T sz N g cap h1 h2=>exact .rp id idx off T sz N g cap (by rw[hρ id (by simpa [ZfM] using hv)];exact h1) h2
  | agg _ _ _ _=>cases hv
  | tup _ _ _ _=>cases hv
  | fn _ _ _ _ _=>cases hv
 have all:∀{cs:List V} {vals:List Value},cs.all (ZfM ks)=true→(∀j,j<cs.length→Rs tab w ok ρ (cs.getD j .dead) (vals.getD j undef))→∀j,j<cs.length→Rs tab w ok' ρ' (cs.getD j .dead) (vals.getD j undef):=fun hv h j hj=>by
  refine one ?_ (h j hj)
  rw[Zcu _ _ _ hj]
  exact List.all_eq_true.1 hv _ (List.getElem_mem hj)
 cases h with
 | tree h=>exact .tree (h.keep hok fun _ _=>rfl)
 | agg cs vals h1 h2=>exact .agg cs vals h1 (all hv h2)
 | tup cs vals h1 h2=>exact .tup cs vals h1 (all hv h2)
 | fn f cs vals h1 h2=>exact .fn f cs vals h1 (all hv h2)
 | sl id T off len sz N a a' cap n h1 h2 h3 h4 h5 h6=>exact one hv (.sl id T off len sz N a a' cap n h1 h2 h3 h4 h5 h6)
 | bp id off g h1=>exact one hv (.bp id off g h1)
 | rp id idx off T sz N g cap h1 h2=>exact one hv (.rp id idx off T sz N g cap h1 h2)
theorem frame {E:Entry} {M:Mem} (hM:MemOk tab E M) (ks ks0:List Nat) (hsub:∀k,k∈ks0→k∈ks) (hcl:∀k b,k∈ks→M.hp k=some b→okBk ks0 b=true):
  ∃(E0:Entry) (M0:Mem),M0.w=M.w∧MemOk tab E0 M0∧M0.hp=(fun k=>if k∈ks then M.hp k else none)∧(∀v x,okI ks0 v=true→M.Rs tab E v x→M0.Rs tab E0 v x)∧
   ∀M',MemOk tab E0 M'→MemLe E0 M0 M'→(∀k,k∉ks→M'.hp k=none)→∃M1,M1.w=M'.w∧MemOk tab E M1∧MemLe E M M1∧M1.hp=(fun k=>if k∈ks then M'.hp k else M.hp k)∧∀v x,M'.Rs tab E0 v x→M1.Rs tab E v x:=by
 have hρs:∀k∈ks0,(if k∈ks then M.ρ k else none)=M.ρ k:=fun k hk=>if_pos (hsub k hk)
 generalize hE0:({ W0:=M.w,okA:=okS E M,Ft:=ks.flatMap M.top,Fn:=ks.flatMap M.nest }:Entry)=E0
 generalize hM0:({ w:=M.w,ρ:=fun k=>if k∈ks then M.ρ k else none,top:=fun k=>if k∈ks then M.top k else[],nest:=fun k=>if k∈ks then M.nest k else[],hp:=fun k=>if k∈ks then M.hp k else none }:Mem)=M0
 have htop:∀k g,g∈M0.top k→k∈ks∧g∈M.top k:=fun k g hg=>by
  rw[←hM0] at hg
  by_cases hk:k∈ks
  ·simp only[hk,if_true] at hg;exact⟨hk,hg⟩
  ·simp[hk] at hg
 have hnest:∀k g,g∈M0.nest k→k∈ks∧g∈M.nest k:=fun k g hg=>by
  rw[←hM0] at hg
  by_cases hk:k∈ks
  ·simp only[hk,if_true] at hg;exact⟨hk,hg⟩
  ·simp[hk] at hg
 have hboth:∀k g,g∈M0.top k++M0.nest k→k∈ks∧g∈M.top k++M.nest k:=fun k g hg=>by
  rcases List.mem_append.1 hg with hg | hg
  ·exact⟨(htop k g hg).1,List.mem_append_left _ (htop k g hg).2⟩
  ·exact⟨(hnest k g hg).1,List.mem_append_right _ (hnest k g hg).2⟩
 have hw0:M0.w=M.w:=by rw[←hM0]
 have hok:∀g,okS E M g→okS E0 M0 g:=fun g hg=>⟨.inl (by rw[←hE0];exact hg),by rw[hw0];exact hg.2.1,fun id hid=>hg.2.2 id (htop id g hid).2⟩
 have hFt:∀g,g∈E0.Ft→∃k∈ks,g∈M.top k:=fun g hg=>by rw[←hE0] at hg;simpa using hg
 have hFn:∀g,g∈E0.Ft++E0.Fn→∃k∈ks,g∈M.top k++M.nest k:=fun g hg=>by
  rw[←hE0] at hg
  rcases List.mem_append.1 hg with hg | hg
  ·obtain⟨k,hk,hg⟩:=List.mem_flatMap.1 hg;exact⟨k,hk,List.mem_append_left _ hg⟩
  ·obtain⟨k,hk,hg⟩:=List.mem_flatMap.1 hg;exact⟨k,hk,List.mem_append_right _ hg⟩
 have hW:E0.W0=M.w:=by rw[←hE0]
 refine⟨E0,M0,hw0,⟨fun id b hb=>?_,fun id hb=>?_,fun id hb=>?_,fun id=>?_,fun id id' hne g hg hg'=>?_,fun id g hg=>?_,fun id g hg=>?_,?_⟩,by rw[←hM0],fun v x hv h=>?_,fun M' m1 m2 m3=>?_⟩
 ·have hk:id∈ks:=by
   rw[←hM0] at hb
   by_cases hk:id∈ks
   ·exact hk
   ·simp[hk] at hb
  have hb:M.hp id=some (some b):=by rw[←hM0] at hb;simpa [hk] using hb
  have hB:=hM.blocks id b hb
  have hcb:=hcl id _ hk hb
  have e1:M0.ρ id=M.ρ id∧M0.top id=M.top id∧M0.nest id=M.nest id:=by rw[←hM0];simp[hk]
  rw[e1.1,e1.2.1,e1.2.2,hw0]
  have hcell:∀{cs:List V} {f:Nat→Value},cs.all (okI ks0)=true→(∀j,j<cs.length→M.Rs tab E (cs.getD j .dead) (f j))→∀j,j<cs.length→Rs tab M.w (okS E0 M0) M0.ρ (cs.getD j .dead) (f j):=fun {cs f} hc h j hj=>by
   have hj':=h j hj
   refine okI_rs (ks:=ks0) ?_ hj' (fun k hk=>by rw[←hM0];exact hρs k hk) hok
   rw[Zcu _ _ _ hj]
   exact List.all_eq_true.1 hc _ (List.getElem_mem hj)
  cases b with
  | box T cs=>
   obtain⟨g,c,TT,q1,q2,q3,q4,q5,q6⟩:=hB
   exact⟨g,c,TT,q1,q2,q3,hcell hcb q4,q5,q6⟩
  | row T own els=>
   obtain⟨ty,v,q1,q2,q3,q4⟩:=hB
   exact⟨ty,v,q1,q2,q3.keep hok (fun _ _=>rfl) (fun _ _=>rfl),q4⟩
  | drow T els=>
   obtain⟨ty,v,n,q1,q2,q3,q4,q5⟩:=hB
   exact⟨ty,v,n,q1,q2,q3.keep hok (fun _ _=>rfl) (fun _ _=>rfl),q4,q5⟩
  | hrow _ _ _ _ _=>cases hcb
  | grow T cs=>
   obtain⟨ty,v,xs,q1,q2,q3,q4,q5,q6,q7⟩:=hB
   exact⟨ty,v,xs,q1,q2,q3,q4,hcell hcb q5,q6,q7⟩
 ·rw[←hM0] at hb ⊢
  by_cases hk:id∈ks
  ·simp only[hk,if_true] at hb ⊢;exact hM.fresh id hb
  ·simp[hk]
 ·rw[←hM0] at hb ⊢
  by_cases hk:id∈ks
  ·simp only[hk,if_true] at hb ⊢;exact hM.ended id hb
  ·simp[hk]
 ·rw[←hM0]
  by_cases hk:id∈ks
  ·simpa [hk] using hM.nodup id
  ·simp[hk]
 ·exact hM.apart id id' hne g (hboth id g hg).2 (hboth id' g hg').2
 ·obtain⟨hk,hg⟩:=hboth id g hg
  refine⟨.inl ?_,by rw[hw0];exact(hM.mine id g hg).2⟩
  rw[←hE0]
  rcases List.mem_append.1 hg with hg | hg
  ·exact List.mem_append_left _ (List.mem_flatMap.2 ⟨id,hk,hg⟩)
  ·exact List.mem_append_right _ (List.mem_flatMap.2 ⟨id,hk,hg⟩)
 ·obtain⟨hk,hg⟩:=htop id g hg
  exact .inl (by rw[←hE0];exact List.mem_flatMap.2 ⟨id,hk,hg⟩)
 ·rw[hW,hw0];exact .refl _ _
 ·show Rs tab M0.w (okS E0 M0) M0.ρ v x
  rw[hw0]
  exact okI_rs (ks:=ks0) hv h (fun k hk=>by rw[←hM0];exact hρs k hk) hok
 ·
  have hsz:M.w.heap.size≤M'.w.heap.size:=by have:=m1.kept.size;rwa [hW] at this
  have hext:∀k,k∉ks→∀g∈M.top k++M.nest k,g∉E0.Ft++E0.Fn∧g<M.w.heap.size:=fun k hk g hg=>⟨fun hg'=>by
   obtain⟨k',hk',hg'⟩:=hFn g hg'
   exact hM.apart k k' (fun e=>hk (e▸hk')) g hg hg',(hM.mine k g hg).2⟩
  have hmine:∀k g,g∈M'.top k++M'.nest k→g∈E0.Ft++E0.Fn∨M.w.heap.size≤g:=fun k g hg=>by have:=(m1.mine k g hg).1;unfold Entry.mine at this;rwa [hW] at this
  have hemine:∀g,g∈E0.Ft++E0.Fn∨M.w.heap.size≤g→E.mine g:=fun g hg=>by
   rcases hg with hg | hg
   ·obtain⟨k,hk,hg⟩:=hFn g hg;exact(hM.mine k g hg).1
   ·exact .inr (Nat.le_trans hM.kept.size hg)
  have hsame:∀g,g<M.w.heap.size→g∉E0.Ft→M'.w.heap[g]? = M.w.heap[g]?:=fun g h1 h2=>by have:=m1.kept.block g (by rw[hW];exact h1) h2;rwa [hW] at this
  have happ:∀k k',k∉ks→∀g,g∈M.top k++M.nest k→g∉M'.top k'++M'.nest k':=fun k k' hk g hg hg'=>by
   obtain⟨q1,q2⟩:=hext k hk g hg
   rcases hmine k' g hg' with h | h
   ·exact q1 h
   ·omega
  have hfresh:∀k,k∉ks→M'.ρ k=none∧M'.top k=[]∧M'.nest k=[]:=fun k hk=>m1.fresh k (m3 k hk)
  generalize hM1:({ w:=M'.w,ρ:=fun k=>if k∈ks then M'.ρ k else M.ρ k,top:=fun k=>if k∈ks then M'.top k else M.top k,nest:=fun k=>if k∈ks then M'.nest k else M.nest k,hp:=fun k=>if k∈ks then M'.hp k else M.hp k }:Mem)=M1
  have hw1:M1.w=M'.w:=by rw[←hM1]
  have hin:∀k,k∈ks→M1.ρ k=M'.ρ k∧M1.top k=M'.top k∧M1.nest k=M'.nest k∧M1.hp k=M'.hp k:=fun k hk=>by rw[←hM1];simp[hk]
  have hout:∀k,k∉ks→M1.ρ k=M.ρ k∧M1.top k=M.top k∧M1.nest k=M.nest k∧M1.hp k=M.hp k:=fun k hk=>by rw[←hM1];simp[hk]
  have hρ':∀k rb,M'.ρ k=some rb→M1.ρ k=some rb:=fun k rb h=>by
   by_cases hk:k∈ks
   ·rw[(hin k hk).1];exact h
   ·rw[(hfresh k hk).1] at h;cases h
  have hρ:∀k rb,M.ρ k=some rb→M1.ρ k=some rb:=fun k rb h=>by
   by_cases hk:k∈ks
   ·rw[(hin k hk).1];exact m2.ρ k rb (by rw[←hM0];simpa [hk] using h)
   ·rw[(hout k hk).1];exact h
  have hok':∀g,okS E0 M' g→okS E M1 g:=fun g ⟨h1,h2,h3⟩=>by
   have hm:(okS E M g∨g∈E0.Ft++E0.Fn)∨M.w.heap.size≤g:=by
    rcases h1 with h | h | h
    ·exact .inl (.inl (by rw[←hE0] at h;exact h))
    ·exact .inl (.inr h)
    ·rw[hW] at h;exact .inr h
   refine⟨?_,by rw[hw1];exact h2,fun id hid=>?_⟩
   ·rcases hm with(h | h) | h
    ·exact h.1
    ·exact .inr (hemine g (.inl h))
    ·exact .inr (hemine g (.inr h))
   ·by_cases hk:id∈ks
    ·rw[(hin id hk).2.1] at hid;exact h3 id hid
    ·rw[(hout id hk).2.1] at hid
     obtain⟨q1,q2⟩:=hext id hk g (List.mem_append_left _ hid)
     rcases hm with(h | h) | h
     ·exact h.2.2 id hid
     ·exact q1 h
     ·omega
  have hle:MemLe E M M1:=by
   refine⟨hρ,fun g hg=>?_,fun g hg=>?_⟩
   ·exact hok' g (m2.ok g (hok g hg))
   ·rw[hw1,m2.same g (hok g hg),hw0]
  refine⟨M1,hw1,⟨fun id b hb=>?_,fun id hb=>?_,fun id hb=>?_,fun id=>?_,fun id id' hne g hg hg'=>?_,fun id g hg=>?_,fun id g hg=>?_,?_⟩,hle,by rw[←hM1],fun v x h=>by
   have:=h.mono (w':=M1.w) hρ' hok' fun _ _=>by rw[hw1]
   exact this⟩
  ·by_cases hk:id∈ks
   ·obtain⟨q1,q2,q3,q4⟩:=hin id hk
    rw[q4] at hb
    rw[q1,q2,q3]
    exact(m1.blocks id b hb).keep hρ' hok' (fun _ _=>by rw[hw1]) fun _ _=>by rw[hw1]
   ·obtain⟨q1,q2,q3,q4⟩:=hout id hk
    rw[q4] at hb
    rw[q1,q2,q3]
    refine(hM.blocks id b hb).keep hρ hle.ok hle.same fun g hg=>?_
    obtain⟨r1,r2⟩:=hext id hk g hg
    rw[hw1]
    exact hsame g r2 fun h=>r1 (List.mem_append_left _ h)
  ·by_cases hk:id∈ks
   ·obtain⟨q1,q2,q3,q4⟩:=hin id hk
    rw[q4] at hb;rw[q1,q2,q3];exact m1.fresh id hb
   ·obtain⟨q1,q2,q3,q4⟩:=hout id hk
    rw[q4] at hb;rw[q1,q2,q3];exact hM.fresh id hb
  ·by_cases hk:id∈ks
   ·obtain⟨q1,q2,q3,q4⟩:=hin id hk
    rw[q4] at hb;rw[q2,q3];exact m1.ended id hb
   ·obtain⟨q1,q2,q3,q4⟩:=hout id hk
    rw[q4] at hb;rw[q2,q3];exact hM.ended id hb
  ·by_cases hk:id∈ks
   ·rw[(hin id hk).2.1,(hin id hk).2.2.1];exact m1.nodup id
   ·rw[(hout id hk).2.1,(hout id hk).2.2.1];exact hM.nodup id
  ·by_cases hk:id∈ks <;> by_cases hk':id'∈ks
   ·rw[(hin id hk).2.1,(hin id hk).2.2.1] at hg;rw[(hin id' hk').2.1,(hin id' hk').2.2.1] at hg'
    exact m1.apart id id' hne g hg hg'
   ·rw[(hin id hk).2.1,(hin id hk).2.2.1] at hg;rw[(hout id' hk').2.1,(hout id' hk').2.2.1] at hg'
    exact happ id' id hk' g hg' hg
   ·rw[(hout id hk).2.1,(hout id hk).2.2.1] at hg;rw[(hin id' hk').2.1,(hin id' hk').2.2.1] at hg'
    exact happ id id' hk g hg hg'
   ·rw[(hout id hk).2.1,(hout id hk).2.2.1] at hg;rw[(hout id' hk').2.1,(hout id' hk').2.2.1] at hg'
    exact hM.apart id id' hne g hg hg'
  ·by_cases hk:id∈ks
   ·rw[(hin id hk).2.1,(hin id hk).2.2.1] at hg
    exact⟨hemine g (hmine id g hg),by rw[hw1];exact(m1.mine id g hg).2⟩
   ·rw[(hout id hk).2.1,(hout id hk).2.2.1] at hg
    exact⟨(hM.mine id g hg).1,by rw[hw1];exact Nat.lt_of_lt_of_le (hM.mine id g hg).2 hsz⟩
  ·by_cases hk:id∈ks
   ·rw[(hin id hk).2.1] at hg
    rcases m1.mineT id g hg with h | h
    ·obtain⟨k,_,h⟩:=hFt g h;exact hM.mineT k g h
    ·rw[hW] at h;exact .inr (Nat.le_trans hM.kept.size h)
   ·rw[(hout id hk).2.1] at hg;exact hM.mineT id g hg
  ·rw[hw1]
   have hk:=m1.kept
   rw[hW] at hk
   refine⟨hk.os.trans hM.kept.os,hk.tape.trans hM.kept.tape,hk.output.trans hM.kept.output,Nat.le_trans hM.kept.size hk.size,fun g hg hF=>?_⟩
   refine(hk.block g (Nat.lt_of_lt_of_le hg hM.kept.size) fun h=>?_).trans (hM.kept.block g hg hF)
   obtain⟨k,_,h⟩:=hFt g h
   rcases hM.mineT k g h with h | h
   ·exact hF h
   ·omega
theorem opG_eff {cfg:Cfg} (hT:ZB P cfg.tab) (hS:Zbk P cfg.tab cfg.sums) {fns:Fns} (hf:ZhI P fns) {E:Entry} {rec:RunC} (hrec:∀E,RecOk P cfg.tab E rec) {dr:Bool} {o:Oper} {s s1:St} {r:Rec} (h:opG cfg fns rec dr o s=some (s1,r))
  (hfr:∀id,s.nid≤id→s.heap id=none):EffX P cfg.tab E o s s1 r:=by
 have fresh1:∀{Ef:Eff} {log:List Nat},s1.F=ZaN s.F ⟨o.dst,Ef.v,Ef.upd,log⟩→s1.nid=ZcW s.nid Ef.upd→∀id,s1.nid≤id→s1.heap id=none:=fun {Ef log} h1 h2 id hid=>by
  have:=Zik (F:=s.F) (e:=⟨o.dst,Ef.v,Ef.upd,log⟩) hfr id (by rw[h2] at hid;exact hid)
  have e:s1.heap=s1.F.hp:=rfl
  rw[e,h1];exact this
 have Zbh:Zd8 cfg o s=some (s1,r)→EffX P cfg.tab E o s s1 r:=fun h=>by
  obtain⟨Ef,h1,h2,h3,h4,h5,h6⟩:=Zow h
  refine⟨Ef,h2,h3,h6,fresh1 h2 h5,fun F' hx hlog _ hmo M a hM hhp hsl Q=>?_⟩
  refine ZmA hT hS hM hsl (nid:=s.nid) (log:=r.log) ?_ (fun id hid hge=>?_) Q
  ·rw[Zjp cfg s.nid o hx,hhp]
   exact Zjo _ _ _ _ _ _ _ _ h1 hlog
  ·rw[hhp,hmo id (by rw[h3];exact hid)];exact hfr id hge
 have stepped:∀(m:RM Eff),Local m→rmG o s m=some (s1,r)→(∀F':Fs,(∀x∈o.op.operands,ev F'.sl x=s.ev x)→∀(M:Mem) (a:Act),MemOk cfg.tab E M→Slots cfg.tab E M F'.sl a→M.hp s.nid=none→∀Ef log,m M.hp=some (Ef,log)→
   ∃M' val,(execOp a.eval o).run P M.w = .ok (.value val) M'.w∧StepOk cfg.tab E M Ef val M')→(∀Ef log,m s.heap=some (Ef,log)→s.nid∈Ef.upd.map (·.1))→EffX P cfg.tab E o s s1 r:=fun m hl h hm hk=>by
  obtain⟨Ef,h1,h2,h3,h4,h5,h6⟩:=Zow h
  refine⟨Ef,h2,h3,h6,fresh1 h2 h5,fun F' hx hlog _ hmo M a hM hhp hsl Q=>?_⟩
  have hn:M.hp s.nid=none:=by rw[hhp,hmo _ (by rw[h3];exact hk _ _ h1)];exact hfr _ (Nat.le_refl _)
  exact ZdS (hm F' hx M a hM hsl hn Ef r.log (by rw[hhp];exact hl _ _ _ _ h1 hlog))
 unfold opG at h
 split at h
 ·rename_i c hop
  split at h
  ·rename_i f hcal
   split at h
   ·rename_i g caps hg
    split at h
    ·rename_i fn hfn
     obtain⟨f1,f2,f3⟩:=hf g fn hfn
     unfold callG at h
     split at h
     ·cases h
     ·rename_i cd hb
      rw[Zo2] at h
      cases hle:(Nat.ble (c.args.toList.map (sft s.ev)++caps).length fn.ntmps&&(!dr||Zhe s.hp (c.args.toList.map (sft s.ev)++caps))) with
      | false=>rw[hle] at h;cases h
      | true=>
      rw[hle,cond_true] at h
      rw[Bool.and_eq_true] at hle
      obtain⟨hle,hcl⟩:=hle
      have hlen:=Nat.le_of_ble_eq_true hle
      split at h
      ·cases h
      ·rename_i e s' hne hr
       split at h
       ·rename_i vs l cs hres
        obtain⟨hcs,h⟩:=Zeh h
        simp only[Option.some.injEq,Prod.mk.injEq] at h
        obtain⟨rfl,rfl⟩:=h
        have hcall:∀F':Fs,(∀x∈o.op.operands,ev F'.sl x=s.ev x)→∀(M:Mem) (a:Act),MemOk cfg.tab E M→M.hp=F'.hp→Slots cfg.tab E M F'.sl a→∀(E0:Entry) (M0:Mem),M0.w=M.w→MemOk cfg.tab E0 M0→M0.hp=s.heap→(∀v x,(dr=true→okI (s.hp.map (·.1)) v=true)→M.Rs cfg.tab E v x→M0.Rs cfg.tab E0 v x)→
          ∀K:Act→World→Prop,(∀M' val,MemOk cfg.tab E0 M'→MemLe E0 M0 M'→M'.hp=s'.heap→M'.Rs cfg.tab E0 (ZfY vs) val→K (a.put o.dst val) M'.w)→∀Q,o.wp P a M.w K Q:=by
         intro F' hx M a hM hhp hsl E0 M0 hw0 hM0 hhp0 hrs0 K hK Q
         have hsf:∀x∈o.op.operands,sft (ev F'.sl) x=sft s.ev x:=fun x hx'=>by unfold sft;rw[hx x hx']
         have hop':∀x,x∈c.operands→x∈o.op.operands:=fun x hx'=>by rw[hop];exact hx'
         have hfv:=ZaA hsl f
         rw[hsf f (hop' f (by simp[Call.operands,hcal])),hg] at hfv
         obtain⟨vals,hfe,hl,hj⟩:=hfv.fn_inv
         have hra:=(ZgC hsl c.args.toList).append (ys:=caps) (us:=vals) ⟨hl,hj⟩
         have hargs:c.args.toList.map (sft (ev F'.sl))=c.args.toList.map (sft s.ev):=List.map_congr_left fun x hx'=>hsf x (hop' x (by simp[Call.operands,hcal];exact .inr (by simpa using hx')))
         rw[hargs] at hra
         have hra:RsL cfg.tab M0.w (okS E0 M0) M0.ρ (c.args.toList.map (sft s.ev)++caps) (c.args.toList.map a.eval++vals):=⟨hra.1,fun j hj=>hrs0 _ _ (fun hd=>by
          rw[hd,Bool.not_true,Bool.false_or,Zhe,Bool.and_eq_true,List.all_eq_true,List.all_eq_true] at hcl
          rw[Zcu _ _ _ hj]
          exact hcl.2 _ (List.getElem_mem hj)) (hra.2 j hj)⟩
         generalize hvs:c.args.toList.map a.eval++vals=avs at hra
         generalize has:c.args.toList.map (sft s.ev)++caps=aw at *
         have hrun:(execOp a.eval o).run P M.w = .ok (.enter g avs.toArray) M.w:=by
          simp only[execOp,hop,resolve,hcal,Deferred.ofValue,hfe,Sem.run_bind,Sem.run_pure,Result.andThen_ok,invoke]
          rw[ZlB ⟨fn,f1,f2,by rw[hb];rfl⟩]
          rw[←hvs];simp
         simp only[Oper.wp,hrun,Oper.upon]
         refine calls_of_wp f1 hb ?_
         have hsz:(avs.toArray++Array.replicate (fn.ntmps-avs.toArray.size) undef).size=fn.ntmps:=by
          have:=hra.1
          simp;omega
         have hR0:Rel cfg.tab E0 fn.ntmps [] M0 { sl:=Zcq 0 aw,hp:=s.hp,nid:=s.nid,lent:=[] } { tmps:=avs.toArray++Array.replicate (fn.ntmps-avs.toArray.size) undef,defers:=[] }:=by
          refine⟨⟨hM0, .refl _ _,hhp0,fun u=>?_⟩, .nil,hfr,hsz,rfl⟩
          have:(St.F { sl:=Zcq 0 aw,hp:=s.hp,nid:=s.nid,lent:=[] }).sl u=aw.getD u .dead:=by
           show(look (Zcq 0 _) u).getD .dead=_
           rw[Zfa];simp
          rw[this]
          by_cases hu:u<aw.length
          ·have hv:=hra.2 u hu
           have he:({ tmps:=avs.toArray++Array.replicate (fn.ntmps-avs.toArray.size) undef,defers:=[] }:Act).eval (.tmp u)=avs.getD u undef:=by
            have hl:u<avs.length:=by rw[hra.1];exact hu
            simp[Act.eval,Array.getElem?_append,hl,List.getD]
           rw[he];exact hv
          ·have:aw.getD u .dead = .dead:=by simp[List.getD,List.getElem?_eq_none (Nat.le_of_not_lt hu)]
           rw[this];exact .tree (.dead _)
         rw[←hw0]
         refine(hrec E0 cd _ e s' hr).2 fn.ntmps [] (f3 cd hb) M0 _ hR0 _ fun M' a' hR' hle'=>?_
         have hpost:a'.defers=[]∧∃v,(results fn a'.tmps).run P M'.w = .ok v M'.w∧K (a.put o.dst v) M'.w:=by
          refine⟨hR'.defers,?_⟩
          have hq:ZeJ cfg.tab s' fn.results.toList M'.hp=some (vs,l):=by
           rw[hR'.rel.hp];exact rm_at.2 ⟨cs,hres,hcs⟩
          obtain⟨val,k1,k2⟩:=Zjt hT hR'.rel.mem hR'.rel.slots hq
          exact⟨val,k1,hK M' val hR'.rel.mem hle' hR'.rel.hp k2⟩
         cases e with
         | normal=>exact hpost
         | ret=>exact hpost
         | exit id=>exact(hne id rfl).elim
        have hkeys:∃l,s'.hp=l++s.hp:=(hrec E cd _ e s' hr).1.1
        obtain⟨nl,hnl⟩:=hkeys
        have htk:s'.hp.take (s'.hp.length-s.hp.length)=nl:=by rw[hnl,List.length_append,Nat.add_sub_cancel];simp
        rw[htk]
        have hup:∀i,ZW s.heap nl.reverse i=s'.heap i:=fun i=>by
         rw[ZiY];show _=look s'.hp i
         rw[hnl,Zn0];cases look nl i <;> rfl
        have hup':ZW s.heap nl.reverse=s'.heap:=funext hup
        refine⟨⟨ZfY vs,nl.reverse⟩,?_,rfl,rfl,(hrec E cd _ e s' hr).1.2 hfr,fun F' hx hlg hall hmo M a hM hhp hsl Q=>?_⟩
        ·simp only[ZaN,Fs.mk.injEq,St.F]
         refine⟨?_,hup'.symm⟩
         funext t
         cases hdst:o.dst with
         | none=>simp only[ZfK];rfl
         | some d=>
          show(look ((d,ZfY vs) :: s.sl) t).getD .dead=_
          simpa [ZfK] using ZeK s d (ZfY vs) t
        ·have same:F'.hp=s.heap→o.wp P a M.w (OpOk cfg.tab E M o a ⟨ZfY vs,nl.reverse⟩) Q:=fun hF'=>by
          refine hcall F' hx M a hM hhp hsl E M rfl hM (hhp.trans hF') (fun _ _ _ h=>h) _ (fun M' val k1 k2 k3 k4=>?_) Q
          exact⟨M',val,rfl,rfl,k1,k2,by rw[k3,hhp,hF',hup'],k4⟩
         cases hd:dr with
         | false=>exact same (hall (by rw[hd];rfl))
         | true=>
          have hcl':=hcl
          rw[hd,Bool.not_true,Bool.false_or,Zhe,Bool.and_eq_true,List.all_eq_true,List.all_eq_true] at hcl'
          have hks:∀k,k∈s'.hp.map (·.1)↔look s'.hp k≠none:=fun k=>ZjJ k
          have hmo':∀k,k∈s'.hp.map (·.1)→M.hp k=s.heap k:=fun k hk=>by
           rw[hhp]
           rw[hnl,List.map_append,List.mem_append] at hk
           exact hk.elim (fun hk=>hmo k (by simpa using hk)) fun hk=>hlg k hk
          have hsub:∀k,k∈s.hp.map (·.1)→k∈s'.hp.map (·.1):=fun k hk=>by rw[hnl,List.map_append];exact List.mem_append_right _ hk
          have hnone:∀k,k∉s'.hp.map (·.1)→s.heap k=none:=fun k hk=>by
           cases hq:s.heap k with
           | none=>rfl
           | some b=>exact absurd (hsub k ((ZjJ k).2 (by show s.heap k≠none;rw[hq];simp))) hk
          obtain⟨E0,M0,g1,g2,g3,g4,g5⟩:=frame hM (s'.hp.map (·.1)) (s.hp.map (·.1)) hsub fun k b hk hb=>by
           rw[hmo' k hk] at hb
           exact hcl'.1 _ (look_mem hb)
          refine hcall F' hx M a hM hhp hsl E0 M0 g1 g2 ?_ (fun v x hv h=>g4 v x (hv hd) h) _ (fun M' val k1 k2 k3 k4=>?_) Q
          ·rw[g3];funext k
           split
           ·rename_i hk;exact hmo' k hk
           ·rename_i hk;exact(hnone k hk).symm
          ·obtain⟨M1,q1,q2,q3,q4,q5⟩:=g5 M' k1 k2 (fun k hk=>by
            rw[k3]
            cases hq:look s'.hp k with
            | none=>exact hq
            | some b=>exact absurd ((hks k).2 (by rw[hq];simp)) hk)
           refine⟨M1,val,rfl,q1,q2,q3,?_,q5 _ _ k4⟩
           rw[q4];funext k
           split
           ·rename_i hk
            rw[k3,←hup k,ZiY,ZiY,hmo' k hk]
           ·rename_i hk
            rw[ZiY]
            cases hq:look nl k with
            | none=>rfl
            | some b=>exact absurd (by rw[hnl,List.map_append];exact List.mem_append_left _ ((ZjJ k).2 (by rw[hq];simp))) hk
       ·cases h
      ·cases h
    ·exact Zbh h
   ·cases h
  ·rename_i hcal
   split at h
   ·rename_i t t2 x y ht hx
    cases hp:Zfl cfg.tab t with
    | false=>rw[hp] at h;exact Zbh h
    | true=>
     rw[hp] at h
     refine stepped _ (Local.appendG _ _ _ _ _ _) h (fun F' hxs M a hM hsl hn Ef log he=>?_) fun Ef log he=>ZnZ he
     have hin:∀z∈c.args.toList,sft (ev F'.sl) z=sft s.ev z:=fun z hz=>by
      unfold sft;rw[hxs z (by rw[hop];simp[Op.operands,Call.operands,hcal];simpa using hz)]
     have e1:c.argTypes = #[t,t2]:=by rw[←ht]
     have e2:c.args = #[x,y]:=by rw[←hx]
     obtain⟨M',val,k1,k2⟩:=Zl8 (ot:=o.type) hT hM hn (by rw[←hin x (by simp[e2])];exact ZaA hsl x) (by rw[←hin y (by simp[e2])];exact ZaA hsl y) he
     refine⟨M',val,?_,k2⟩
     simp only[execOp,hop,resolve,hcal,Sem.run_bind,Sem.run_pure,Result.andThen_ok,invoke,e1,e2]
     refine Zbi ?_
     simpa using k1
   ·cases h
  ·exact Zbh h
 ·rename_i t n pp hop
  cases hp:Zfl cfg.tab t with
  | false=>rw[hp] at h;exact Zbh h
  | true=>
   rw[hp,cond_true] at h
   split at h
   ·rename_i x hpp
    refine stepped _ (Local.buildG _ _ _ _) h (fun F' hxs M a hM hsl hn Ef log he=>?_) fun Ef log he=>Zo3 he
    have e1:pp = #[(0,x)]:=by rw[←hpp]
    have hin:sft (ev F'.sl) x=sft s.ev x:=by unfold sft;rw[hxs x (by rw[hop];simp[Op.operands,e1])]
    obtain⟨M',val,k1,k2⟩:=ZmP hT hM hn (by rw[←hin];exact ZaA hsl x) he
    refine⟨M',val,?_,k2⟩
    simp only[execOp,hop,e1]
    refine Zbi ?_
    simpa using k1
   ·cases h
 ·exact Zbh h
def EntX (P:Program) (tab:Tab) (E:Entry) (ops:Array Oper) (o:Oper) (Fi:Fs) (e:Ent) (r:Rec):Prop:=
 e.dst=o.dst∧r.mods=e.mods∧∀i,ops[i]? = some o→∀F':Fs,(∀t∈o.looksAt ops,F'.sl t=Fi.sl t)→(∀k∈r.log,F'.hp k=Fi.hp k)→(r.all=true→F'.hp=Fi.hp)→(∀k∈e.mods,F'.hp k=Fi.hp k)→
  ∀(ρ0 M:Mem) (a:Act),RelF tab E ρ0 M F' a→(∀d,o.dst=some d→d<a.tmps.size)→∀(Q:Exit→Act→World→Prop) (K:Act→World→Prop),
   (∀M' v,RelF tab E ρ0 M' (ZaN F' e) (a.put o.dst v)→(a.put o.dst v).tmps.size=a.tmps.size→(a.put o.dst v).defers=a.defers→K (a.put o.dst v) M'.w)→wpOp P ops Q i K a M.w
def InvX (P:Program) (tab:Tab) (E:Entry) (ops:Array Oper) (l:List Oper) (s s':St) (tr tr':List Rec):Prop:=
 ∃(es:List Ent) (rs:List Rec),tr'=rs.reverse++tr∧es.length=l.length∧rs.length=l.length∧s'.F=Zai s.F es∧s'.lent=s.lent∧(∀id,s'.nid≤id→s'.heap id=none)∧
  ∀(i:Nat) (o:Oper),l[i]? = some o→∃e r,es[i]? = some e∧rs[i]? = some r∧EntX P tab E ops o (Zai s.F (es.take i)) e r
theorem ZjK {cfg:Cfg} (hT:ZB P cfg.tab) (hS:Zbk P cfg.tab cfg.sums) {fns:Fns} (hf:ZhI P fns) {E:Entry} {rec:RunC} (hrec:∀E,RecOk P cfg.tab E rec) {dr:Bool} {ops:Array Oper}:
  ∀(l:List Oper) (s s':St) (tr tr':List Rec),Zfb cfg fns rec dr ops.toList l s tr=some (s',tr')→(∀id,s.nid≤id→s.heap id=none)→
   InvX P cfg.tab E ops l s s' tr tr'
 | [],s,s',tr,tr',h,hfr=>by
  cases h
  exact⟨[],[],rfl,rfl,rfl,rfl,rfl,hfr,fun i o hi=>by simp at hi⟩
 | o :: l,s,s',tr,tr',h,hfr=>by
  have hsz:∀(a:Act) v,(a.put o.dst v).tmps.size=a.tmps.size∧(a.put o.dst v).defers=a.defers:=fun a v=>by cases o.dst <;> simp[Act.put]
  have go:∀(e:Ent) (r:Rec) (s1:St),s1.F=ZaN s.F e→s1.lent=s.lent→(∀id,s1.nid≤id→s1.heap id=none)→EntX P cfg.tab E ops o s.F e r→Zfb cfg fns rec dr ops.toList l s1 (r :: tr)=some (s',tr')→InvX P cfg.tab E ops (o :: l) s s' tr tr':=fun e r s1 h1 h2 h3 h4 h5=>by
   obtain⟨es,rs,k1,k2,k3,k4,k5,k6,k7⟩:=ZjK hT hS hf hrec l s1 s' _ _ h5 h3
   refine⟨e :: es,r :: rs,by simp[k1],by simp[k2],by simp[k3],by rw[k4,h1];rfl,k5.trans h2,k6,fun i o' hi=>?_⟩
   cases i with
   | zero=>simp at hi;subst hi;exact⟨e,r,rfl,rfl,h4⟩
   | succ i=>
    obtain⟨e',r',q1,q2,q3⟩:=k7 i o' (by simpa using hi)
    rw[h1] at q3
    exact⟨e',r',by simpa using q1,by simpa using q2,q3⟩
  have wcong:∀F':Fs,(∀t∈o.looksAt ops,F'.sl t=s.F.sl t)→ZbA ops.toList F' o=ZbA ops.toList s.F o:=fun F' hsl=>by
   unfold ZbA
   cases hg:o.guard with
   | none=>rfl
   | some gw=>
    obtain⟨g,want⟩:=gw
    simp only[]
    cases ht:(ops.toList[g]?).bind (·.dst) with
    | none=>rfl
    | some t=>
     simp only[]
     rw[hsl t]
     unfold Oper.looksAt
     rw[hg]
     refine List.mem_append_right _ ?_
     simp only[]
     rw[Array.getElem?_toList] at ht
     simp[ht]
  have run:ZbA ops.toList s.F o=some true→(match opG cfg fns rec dr o s with | some (s,x)=>Zfb cfg fns rec dr ops.toList l s (x :: tr) | none=>none)=some (s',tr')→InvX P cfg.tab E ops (o :: l) s s' tr tr':=fun hw h=>by
   split at h
   ·rename_i s1 r h1
    obtain⟨Ef,q1,q2,q3,q4,q5⟩:=opG_eff hT hS hf hrec h1 hfr
    refine go ⟨o.dst,Ef.v,Ef.upd,r.log⟩ r s1 q1 q3 q4 ⟨rfl,q2,fun i ho F' hsl hlog hall hmo ρ0 M a hR hd Q K hK=>?_⟩ h
    unfold wpOp
    simp only[ho]
    rw[Zim hR (ops:=ops) (o:=o) true ((wcong F' hsl).trans hw),if_pos rfl]
    refine .inl (Oper.wp_mono (K:=OpOk cfg.tab E M o a Ef) ?_ (q5 F' (fun x hx=>?_) hlog hall (fun k hk=>hmo k (by rw[q2] at hk;exact hk)) M a hR.mem hR.hp hR.slots Q))
    ·rintro a' w' ⟨M',val,rfl,rfl,hst⟩
     refine hK M' val ⟨hst.mem,hR.le.trans hst.le,?_,?_⟩ (hsz a _).1 (hsz a _).2
     ·rw[hst.hp,hR.hp];rfl
     ·exact Slots.put (fun t=>hst.le.rs (hR.slots t)) hd hst.val
    ·cases x with
     | tmp t=>exact hsl t (List.mem_append_left _ (List.mem_filterMap.2 ⟨.tmp t,by simpa using hx,rfl⟩))
     | _=>rfl
   ·cases h
  have skip:ZbA ops.toList s.F o=some false→Zfb cfg fns rec dr ops.toList l (s.put o.dst .sk) (⟨[],[],false⟩ :: tr)=some (s',tr')→InvX P cfg.tab E ops (o :: l) s s' tr tr':=fun hw h=>by
   refine go ⟨o.dst, .sk,[],[]⟩ ⟨[],[],false⟩ _ (put_F s o.dst .sk) (by cases o.dst <;> rfl) (by cases o.dst <;> exact hfr) ⟨rfl,rfl,fun i ho F' hsl hlog hall hmo ρ0 M a hR hd Q K hK=>?_⟩ h
   unfold wpOp
   simp only[ho]
   rw[Zim hR (ops:=ops) (o:=o) false ((wcong F' hsl).trans hw),if_neg (by simp)]
   exact hK M undef ⟨hR.mem,hR.le,by rw[hR.hp];rfl,Slots.put hR.slots hd (.tree .sk)⟩ (hsz a _).1 (hsz a _).2
  unfold Zfb at h
  simp only[opF_eq] at h
  split at h
  ·rename_i hg
   exact run (by simp[ZbA,hg]) h
  ·rename_i j want hg
   split at h
   ·cases h
   ·rename_i t ht
    split at h
    ·rename_i b hb
     have hw:ZbA ops.toList s.F o=some (b == want):=by
      have:s.F.sl t = .bool b:=hb
      unfold ZbA;rw[hg];simp only[];rw[ht];simp only[this]
     cases hbw:(b == want) with
     | true=>rw[hbw] at h hw;exact run hw h
     | false=>rw[hbw] at h hw;exact skip hw h
    ·rename_i hb
     exact skip (by
      have:s.F.sl t = .sk:=hb
      unfold ZbA;rw[hg];simp only[];rw[ht];simp only[this]) h
    ·cases h
theorem seqX {E:Entry} {ops:Array Oper} {ρ0:Mem} {F:Fs} {es:List Ent} {N:Nat} {D:List Deferred} {Q:Exit→Act→World→Prop} (hX:∀(i:Nat) (o:Oper),ops[i]? = some o→∃e r,es[i]? = some e∧EntX P tab E ops o (Zai F (es.take i)) e r) (hlen:es.length=ops.size) (hd:∀o∈ops.toList,∀d,o.dst=some d→d<N)
  (hK:∀M' a',RelF tab E ρ0 M' (Zai F es) a'→a'.tmps.size=N→a'.defers=D→Q .normal a' M'.w):
  ∀(m k:Nat),k+m=ops.size→∀(M:Mem) (a:Act),RelF tab E ρ0 M (Zai F (es.take k)) a→a.tmps.size=N→a.defers=D→wpOps P ops Q (List.range' k m) a M.w
 | 0,k,hk,M,a,hR,h1,h2=>by
  rw[List.take_of_length_le (by omega)] at hR
  exact hK M a hR h1 h2
 | m+1,k,hk,M,a,hR,h1,h2=>by
  rw[List.range'_succ,wpOps_cons]
  have hkl:k<ops.size:=by omega
  have ho:ops[k]? = some ops[k]:=Array.getElem?_eq_getElem hkl
  obtain⟨e,r,q1,q2,q3,q4⟩:=hX k _ ho
  refine q4 k ho _ (fun _ _=>rfl) (fun _ _=>rfl) (fun _=>rfl) (fun _ _=>rfl) ρ0 M a hR (fun d hd'=>by rw[h1];exact hd _ (by simp) d hd') Q _ fun M' v hR' h3 h4=>?_
  refine seqX hX hlen hd hK m (k+1) (by omega) M' _ ?_ (h3.trans h1) (h4.trans h2)
  have:es.take (k+1)=es.take k++[e]:=by rw[List.take_add_one,q1];rfl
  rw[this,Zai,List.foldl_append]
  exact hR'
theorem Zn1 (u:List (Nat×Option Blk)):∀h:List (Nat×Option Blk),∃l,Zg5 h u=l++h:=by
 induction u with
 | nil=>exact fun h=>⟨[],rfl⟩
 | cons p u ih=>exact fun h=>by obtain⟨l,hl⟩:=ih (p :: h);exact⟨l++[p],by rw[Zg5,hl];simp⟩
theorem opG_keys {cfg:Cfg} {fns:Fns} {rec:RunC} (hrec:∀c s e s',rec c s=some (e,s')→Keys s s') {dr:Bool} {o:Oper} {s s1:St} {r:Rec} (h:opG cfg fns rec dr o s=some (s1,r)):Keys s s1:=by
 have hrm:∀{m:RM Eff},rmG o s m=some (s1,r)→Keys s s1:=fun h=>by
  unfold rmG at h
  split at h
  ·obtain⟨_,h⟩:=Zeh h
   cases h
   exact Zn1 _ _
  ·cases h
 have hpl:Zd8 cfg o s=some (s1,r)→Keys s s1:=fun h=>hrm h
 unfold opG at h
 split at h
 ·split at h
  ·split at h
   ·split at h
    ·unfold callG at h
     split at h
     ·cases h
     ·cases hle:(Nat.ble (_:Nat) (_:Nat)&&(_:Bool)) <;> rw[hle] at h
      ·cases h
      ·rw[cond_true] at h
       split at h
       ·cases h
       ·rename_i hr
        split at h
        ·obtain⟨_,h⟩:=Zeh h
         cases h
         obtain⟨l,hl⟩:=hrec _ _ _ _ hr
         exact⟨l,hl⟩
        ·cases h
       ·cases h
    ·exact hpl h
   ·cases h
  ·split at h
   ·cases hp:Zfl cfg.tab _ <;> rw[hp] at h
    ·exact hpl h
    ·exact hrm h
   ·cases h
  ·exact hpl h
 ·cases hp:Zfl cfg.tab _ <;> rw[hp] at h
  ·exact hpl h
  ·rw[cond_true] at h
   split at h
   ·exact hrm h
   ·cases h
 ·exact hpl h
theorem Keys.trans {s s1 s2:St} (h:Keys s s1) (k:Keys s1 s2):Keys s s2:=by
 obtain⟨l,h⟩:=h;obtain⟨l',k⟩:=k
 exact⟨l'++l,by rw[k,h,List.append_assoc]⟩
theorem ZgE {cfg:Cfg} {fns:Fns} {rec:RunC} (hrec:∀c s e s',rec c s=some (e,s')→Keys s s') {dr:Bool} {all:List Oper}:∀(l:List Oper) (s s':St) (tr tr':List Rec),Zfb cfg fns rec dr all l s tr=some (s',tr')→Keys s s'
 | [],s,s',tr,tr',h=>by cases h;exact⟨[],rfl⟩
 | o :: l,s,s',tr,tr',h=>by
  have hput:Keys s (s.put o.dst .sk):=by cases o.dst <;> exact⟨[],rfl⟩
  have run:(match opG cfg fns rec dr o s with | some (s,x)=>Zfb cfg fns rec dr all l s (x :: tr) | none=>none)=some (s',tr')→Keys s s':=fun h=>by
   split at h
   ·rename_i h1
    exact(opG_keys hrec h1).trans (ZgE hrec l _ s' _ _ h)
   ·cases h
  unfold Zfb at h
  simp only[opF_eq] at h
  split at h
  ·exact run h
  ·rename_i want _
   split at h
   ·cases h
   ·split at h
    ·rename_i b _
     cases hb:(b == want) <;> rw[hb] at h
     ·exact hput.trans (ZgE hrec l _ s' _ _ h)
     ·exact run h
    ·exact hput.trans (ZgE hrec l _ s' _ _ h)
    ·cases h
theorem ZmQ {E:Entry} {N:Nat} {ps:List (V×Value)} {M:Mem} {s:St} {a:Act} (h:Rel tab E N ps M s a) (keep:List Nat):∃M',M'.w=M.w∧Rel tab E N ps M' (canonG keep s) a:=by
 have hcl:∀(n:Nat) (ids:List Nat),ids.Nodup→(∀i∈s.lent,i∈ids)→(ZkD s.hp n ids).Nodup∧∀i∈s.lent,i∈ZkD s.hp n ids:=by
  intro n
  induction n with
  | zero=>exact fun ids h1 h2=>⟨h1,h2⟩
  | succ n ih=>exact fun ids h1 h2=>ih _ (Zda h1) fun i hi=>Zdz (.inl (h2 i hi))
 obtain⟨hn,hin⟩:=hcl 4 _ (Zda (r:=keep.flatMap fun t=>idsV (s.slot t)) (Zda (r:=s.lent) List.nodup_nil)) fun i hi=>Zdz (.inl (Zdz (.inr hi)))
 exact Zh0 h keep hn hin
theorem Zfm {cfg:Cfg} (hT:ZB P cfg.tab) (hS:Zbk P cfg.tab cfg.sums) (hmix:P.follows .mixedOrders=true) {fns:Fns} (hf:ZhI P fns) {E:Entry}:
  ∀(n:Nat) (cn:Zeu) (c:Code) (s:St) (e:Ex) (s':St),ZiX cfg fns n cn c s=some (e,s')→((∀k,cn k=none)→Keys s s'∧(Zev s→Zev s'))∧∀N ps,ZaY N c=true→∀M a,Rel cfg.tab E N ps M s a→∀Q:Exit→Act→World→Prop,
   (∀M' a',Rel cfg.tab E N ps M' s' a'→((∀k,cn k=none)→MemLe E M M')→Q (ZfA e) a' M'.w)→c.wp P Q a M.w
 | 0,cn,c,s,e,s',h=>by cases h
 | n+1,cn,c,s,e,s',h=>by
  have ih:=Zfm hT hS hmix hf (E:=E) n
  have hrec:∀E,RecOk P cfg.tab E (ZiX cfg fns n fun _=>none):=fun E c s e s' h=>have ih:=Zfm hT hS hmix hf (E:=E) n;⟨(ih _ c s e s' h).1 fun _=>rfl,fun N ps hc M a hR Q hQ=>(ih _ c s e s' h).2 N ps hc M a hR Q fun M' a' h1 h2=>hQ M' a' h1 (h2 fun _=>rfl)⟩
  have hid:Keys s s∧(Zev s→Zev s):=⟨⟨[],rfl⟩,id⟩
  have htr:∀{s1 s2:St},(Keys s s1∧(Zev s→Zev s1))→(Keys s1 s2∧(Zev s1→Zev s2))→Keys s s2∧(Zev s→Zev s2):=fun h1 h2=>⟨h1.1.trans h2.1,fun h=>h2.2 (h1.2 h)⟩
  change ZfZ cfg fns (ZiX cfg fns n) cn c s=some (e,s') at h
  cases c with
  | skip=>cases h;exact⟨fun _=>hid,fun N ps hc M a hR Q hQ=>wp_skip (hQ M a hR fun _=>.refl _ _)⟩
  | label l=>cases h;exact⟨fun _=>hid,fun N ps hc M a hR Q hQ=>wp_label (hQ M a hR fun _=>.refl _ _)⟩
  | exit id=>cases h;exact⟨fun _=>hid,fun N ps hc M a hR Q hQ=>wp_exit (hQ M a hR fun _=>.refl _ _)⟩
  | ret=>cases h;exact⟨fun _=>hid,fun N ps hc M a hR Q hQ=>wp_ret (hQ M a hR fun _=>.refl _ _)⟩
  | region rid ops draw=>
   simp only[ZfZ] at h
   split at h
   ·rename_i s1 tr h1
    cases hok:(!draw||(Zd3 tr||Zc6 (CheckFast.beforeF ops).toList 0 tr.reverse)) with
    | false=>rw[hok] at h;cases h
    | true=>
    rw[hok] at h
    cases h
    refine⟨fun _=>⟨ZgE (fun c s e s' h=>((hrec E) c s e s' h).1.1) _ _ _ _ _ h1,fun hfr=>?_⟩,fun N ps hc M a hR Q hQ=>?_⟩
    ·obtain⟨es,rs,-,-,-,-,-,k6,-⟩:=ZjK (E:=E) hT hS hf hrec _ _ _ _ _ h1 hfr
     exact k6
    ·simp only[ZaY,Bool.and_eq_true,List.all_eq_true] at hc
     obtain⟨hd,hp⟩:=hc
     have hdst:∀o∈ops.toList,∀d,o.dst=some d→d<N:=fun o ho d hd'=>by
      have:=hd o ho
      rw[hd'] at this
      simpa using this
     obtain⟨es,rs,k1,k2,k3,k4,k5,k6,k7⟩:=ZjK hT hS hf hrec _ _ _ _ _ h1 hR.fresh
     have hX:∀(i:Nat) (o:Oper),ops[i]? = some o→∃e r,es[i]? = some e∧rs[i]? = some r∧EntX P cfg.tab E ops o (Zai s.F (es.take i)) e r:=fun i o ho=>k7 i o (by simpa using ho)
     have hfin:∀M' a',RelF cfg.tab E M M' (Zai s.F es) a'→a'.tmps.size=N→a'.defers=[]→Q .normal a' M'.w:=fun M' a' hR' q1 q2=>
      hQ M' a' ⟨⟨hR'.mem, .refl _ _,by rw[k4];exact hR'.hp,by rw[k4];exact hR'.slots⟩,by rw[k5];exact hR.lent.mono hR'.le.ρ,k6,q1,q2⟩ fun _=>hR'.le
     cases draw with
     | false=>
      refine wp_region ?_
      have:=seqX (fun i o ho=>by obtain⟨e,r,q1,-,q2⟩:=hX i o ho;exact⟨e,r,q1,q2⟩) (by simpa using k2) hdst hfin ops.size 0 (by omega) M a hR.rel hR.size hR.defers
      simpa [List.range_eq_range'] using this
     | true=>
      simp only[Bool.not_true,Bool.false_or] at hok hp
      rw[k1,List.append_nil,List.reverse_reverse] at hok
      rw[CheckFast.beforeF_eq] at hok hp
      have hget:∀(j:Nat) (o:Oper) (e:Ent),ops[j]? = some o→es[j]? = some e→∃r,rs[j]? = some r∧EntX P cfg.tab E ops o (Zai s.F (es.take j)) e r:=fun j o e ho hej=>by
       obtain⟨e',r,q1,q2,q3⟩:=hX j o ho
       rw[hej] at q1;cases q1;exact⟨r,q2,q3⟩
      refine Zkx hmix hR.rel k2 (k3.trans k2.symm) (fun j o e ho hej=>?_) (fun j e r hej hrj=>?_) hp (by simpa [Zd3] using hok) (fun i o e r ho hei hri F' hsl hlog hall hmo M' a' hR' hsz K hK=>?_) fun M' a' h1 h2 h3=>hfin M' a' h1 (h2.trans hR.size) (h3.trans hR.defers)
      ·obtain⟨r,-,q⟩:=hget j o e ho hej;exact q.1
      ·have hjl:j<ops.size:=by have:=(List.getElem?_eq_some_iff.1 hej).1;rw[k2] at this;simpa using this
       obtain⟨r',q1,q2⟩:=hget j _ e (Array.getElem?_eq_getElem hjl) hej
       rw[hrj] at q1;cases q1;exact q2.2.1
      ·obtain⟨r',q1,q2⟩:=hget i o e ho hei
       rw[hri] at q1;cases q1
       exact q2.2.2 i ho F' hsl hlog hall hmo M M' a' hR' (fun d hd'=>by rw[hsz,hR.size];exact hdst o (by simpa using Array.mem_of_getElem? ho) d hd') Q K hK
   ·cases h
  | seq c1 c2=>
   simp only[ZfZ] at h
   split at h
   ·rename_i s1 h1
    obtain⟨a1,b1⟩:=ih cn c1 s .normal s1 h1
    obtain⟨a2,b2⟩:=ih cn c2 s1 e s' h
    refine⟨fun hcn=>htr (a1 hcn) (a2 hcn),fun N ps hc M a hR Q hQ=>?_⟩
    simp only[ZaY,Bool.and_eq_true] at hc
    exact wp_seq (b1 N ps hc.1 M a hR _ fun M1 a1 hR1 hl1=>b2 N ps hc.2 M1 a1 hR1 Q fun M2 a2 hR2 hl2=>hQ M2 a2 hR2 fun hcn=>(hl1 hcn).trans (hl2 hcn))
   ·rename_i hne
    obtain⟨a1,b1⟩:=ih cn c1 s e s' h
    refine⟨a1,fun N ps hc M a hR Q hQ=>?_⟩
    simp only[ZaY,Bool.and_eq_true] at hc
    refine wp_seq (b1 N ps hc.1 M a hR _ fun M1 a1 hR1 hl1=>?_)
    cases e with
    | normal=>exact absurd h (hne s')
    | exit id=>exact hQ M1 a1 hR1 hl1
    | ret=>exact hQ M1 a1 hR1 hl1
  | cond c c1 c2=>
   simp only[ZfZ] at h
   split at h
   ·rename_i t
    cases hs:s.slot t with
    | bool b=>
     rw[hs] at h
     have hv:∀{N ps M a},Rel cfg.tab E N ps M s a→a.eval (.tmp t) = .bool b:=fun hR=>by
      have hv:=hR.rel.slots t
      have hb':s.F.sl t = .bool b:=hs
      rw[hb'] at hv
      exact hv.bool
     cases b with
     | true=>
      obtain⟨a1,b1⟩:=ih cn c1 s e s' h
      refine⟨a1,fun N ps hc M a hR Q hQ=>?_⟩
      simp only[ZaY,Bool.and_eq_true] at hc
      exact wp_cond_true (hv hR) (b1 N ps hc.1 M a hR Q hQ)
     | false=>
      obtain⟨a1,b1⟩:=ih cn c2 s e s' h
      refine⟨a1,fun N ps hc M a hR Q hQ=>?_⟩
      simp only[ZaY,Bool.and_eq_true] at hc
      exact wp_cond_false (hv hR) (b1 N ps hc.2 M a hR Q hQ)
    | _=>rw[hs] at h;cases h
   ·obtain⟨a1,b1⟩:=ih cn c1 s e s' h
    refine⟨a1,fun N ps hc M a hR Q hQ=>?_⟩
    simp only[ZaY,Bool.and_eq_true] at hc
    exact wp_cond_true rfl (b1 N ps hc.1 M a hR Q hQ)
   ·obtain⟨a1,b1⟩:=ih cn c2 s e s' h
    refine⟨a1,fun N ps hc M a hR Q hQ=>?_⟩
    simp only[ZaY,Bool.and_eq_true] at hc
    exact wp_cond_false rfl (b1 N ps hc.2 M a hR Q hQ)
   ·cases h
  | block id c1=>
   simp only[ZfZ] at h
   split at h
   ·rename_i j s1 h1
    obtain⟨a1,b1⟩:=ih cn c1 s (.exit j) s1 h1
    by_cases hj:j=id
    ·subst hj
     simp only[Nat.beq_refl,cond_true,Option.some.injEq,Prod.mk.injEq] at h
     obtain⟨rfl,rfl⟩:=h
     exact⟨a1,fun N ps hc M a hR Q hQ=>wp_block (b1 N ps hc M a hR _ fun M1 a1 hR1 hl1=>by simpa [ZfA,Exit.inBlock] using hQ M1 a1 hR1 hl1)⟩
    ·have hb:Nat.beq j id=false:=by
      cases hb:Nat.beq j id
      ·rfl
      ·exact absurd (Nat.eq_of_beq_eq_true hb) hj
     rw[hb] at h
     simp only[cond_false,Option.some.injEq,Prod.mk.injEq] at h
     obtain⟨rfl,rfl⟩:=h
     exact⟨a1,fun N ps hc M a hR Q hQ=>wp_block (b1 N ps hc M a hR _ fun M1 a1 hR1 hl1=>by simpa [ZfA,Exit.inBlock,hj] using hQ M1 a1 hR1 hl1)⟩
   ·rename_i hne
    obtain⟨a1,b1⟩:=ih cn c1 s e s' h
    refine⟨a1,fun N ps hc M a hR Q hQ=>wp_block (b1 N ps hc M a hR _ fun M1 a1 hR1 hl1=>?_)⟩
    cases e with
    | normal=>exact hQ M1 a1 hR1 hl1
    | exit id'=>exact absurd h (hne id' s')
    | ret=>exact hQ M1 a1 hR1 hl1
  | loop c1=>
   refine⟨fun hcn=>?_,fun N ps hc M a hR Q hQ=>?_⟩
   ·simp only[ZfZ] at h
    split at h
    ·rename_i s1 h1
     have hcl:ZkE cn (Zbo c1) s1=s1:=by unfold ZkE;rw[hcn]
     rw[hcl] at h
     exact htr ((ih cn c1 s .normal s1 h1).1 hcn) ((ih cn (.loop c1) s1 e s' h).1 hcn)
    ·exact(ih cn c1 s e s' h).1 hcn
   have hc1:ZaY N c1=true:=hc
   refine ZlG (fun m a w=>∃M1 s1,M1.w=w∧Rel cfg.tab E N ps M1 s1 a∧((∀k,cn k=none)→MemLe E M M1)∧m≤n+1∧ZiX cfg fns m cn (.loop c1) s1=some (e,s')) (fun a w=>?_) (fun m a w=>?_) (n:=n+1) ⟨M,s,rfl,hR,fun _=>.refl _ _,Nat.le_refl _,h⟩
   ·rintro⟨M1,s1,_,_,_,_,hr⟩
    cases hr
   ·rintro⟨M1,s1,rfl,hR1,hl1,hm,hr⟩
    have hr:ZfZ cfg fns (ZiX cfg fns m) cn (.loop c1) s1=some (e,s'):=hr
    simp only[ZfZ] at hr
    have ihm:=Zfm hT hS hmix hf (E:=E) m
    split at hr
    ·rename_i s2 h2
     refine(ihm cn c1 s1 .normal s2 h2).2 N ps hc1 M1 a hR1 _ fun M2 a2 hR2 hl2=>?_
     have hl:(∀k,cn k=none)→MemLe E M M2:=fun hcn=>(hl1 hcn).trans (hl2 hcn)
     unfold ZkE at hr
     split at hr
     ·rename_i keep hk
      obtain⟨M3,hw3,hR3⟩:=ZmQ hR2 keep
      exact⟨M3,_,hw3,hR3,fun hcn=>(by rw[hcn] at hk;cases hk),by omega,hr⟩
     ·exact⟨M2,_,rfl,hR2,hl,by omega,hr⟩
    ·rename_i hne
     refine(ihm cn c1 s1 e s' hr).2 N ps hc1 M1 a hR1 _ fun M2 a2 hR2 hl2=>?_
     cases e with
     | normal=>exact absurd hr (hne s')
     | exit id=>exact hQ M2 a2 hR2 fun hcn=>(hl1 hcn).trans (hl2 hcn)
     | ret=>exact hQ M2 a2 hR2 fun hcn=>(hl1 hcn).trans (hl2 hcn)
  | _=>cases h
termination_by n=>n
theorem Ziy {cfg:Cfg} (hT:ZB P cfg.tab) (hS:Zbk P cfg.tab cfg.sums) (hmix:P.follows .mixedOrders=true) {fns:Fns} (hf:ZhI P fns) {cn:Zeu} {n:Nat} {f:FuncId} {fn:Func} {c:Code} (hfn:P.funcs[f]? = some fn) (hb:fn.body=some c)
  (hc:ZaY fn.ntmps c=true) {args:List V} (hlen:args.length≤fn.ntmps) {r:V×List V} (h:Zdl cfg fns cn n fn args=some r):SumOk P cfg.tab f args r:=by
 unfold Zdl at h
 rw[hb] at h
 simp only[] at h
 split at h
 ·cases h
 ·rename_i e s' hne he
  refine Zju hT hfn hb hlen [] fun E ps=>⟨e,s',?_,fun M a hR Q hQ=>(Zfm hT hS hmix hf n cn c _ e s' he).2 _ _ hc M a hR Q fun M' a' h1 _=>hQ M' a' h1⟩
  cases e with
  | normal=>exact h
  | ret=>exact h
  | exit id=>exact(hne id rfl).elim
 ·cases h
def ZgF (P:Program) (fl:List Nat):Fns:=fun g=>bif fl.contains g then P.funcs[g]? else none
def fnsB (P:Program) (fl:List Nat):Bool:=fl.all fun g=>match P.funcs[g]? with
 | some fn=>!(fn.name == "runtime.NumGoroutine")&&(match fn.body with | some c=>ZaY fn.ntmps c | none=>true)
 | none=>true
theorem Ziz {fl:List Nat} (h:fnsB P fl=true):ZhI P (ZgF P fl):=by
 intro g fn hg
 unfold ZgF at hg
 cases hc:fl.contains g with
 | false=>rw[hc] at hg;cases hg
 | true=>
  rw[hc] at hg
  have hg:P.funcs[g]? = some fn:=hg
  have h1:=List.all_eq_true.1 h g (by simpa using hc)
  rw[hg] at h1
  simp only[Bool.and_eq_true,Bool.not_eq_true'] at h1
  refine⟨hg,h1.1,fun c hb=>?_⟩
  have h2:=h1.2
  rw[hb] at h2;exact h2
theorem Zn2 {cfg:Cfg} (hT:ZB P cfg.tab) (hS:Zbk P cfg.tab cfg.sums) (hmix:P.follows .mixedOrders=true) {fns:Fns} (hf:ZhI P fns) {fuel:Nat} {f:FuncId} {fn:Func} {c:Code} (hfn:P.funcs[f]? = some fn) (hb:fn.body=some c)
  (hc:ZaY fn.ntmps c=true) {args:List V} (hlen:args.length≤fn.ntmps) {r:V×List V} (h:Zgo cfg fns fuel fn args=some r):SumOk P cfg.tab f args r:=by
 unfold Zgo at h
 split at h
 ·rename_i T l
  have go:∀{v:V} {r:V×List V},Zdl cfg fns (fun _=>none) fuel fn [v]=some r→SumOk P cfg.tab f [v] r:=fun h=>Ziy hT hS hmix hf hfn hb hc (by simpa using hlen) h
  split at h
  ·rename_i T' o l' h1
   cases hl:l.isEmpty with
   | false=>
    rw[hl] at h
    cases h
    exact Zix (go h1) fun e=>by rw[e] at hl;cases hl
   | true=>
    rw[hl,cond_true] at h
    split at h
    ·rename_i T2 h2
     cases hq:(l'.isEmpty&&(cfg.tab T').isSome) with
     | false=>rw[hq] at h;cases h
     | true=>
      rw[hq] at h
      cases h
      simp only[Bool.and_eq_true,List.isEmpty_iff] at hq
      obtain⟨rfl,hq⟩:=hq
      exact Zix (go h1) fun _=>(go h2).weaken (ss:=[[.rr T' o]]) (os:=[]) (by simpa [ZcL] using hq) rfl
    ·cases h
  ·cases h
 ·cases h
theorem ZkG {cfg:Cfg} (hT:ZB P cfg.tab) (hS:Zbk P cfg.tab cfg.sums) (hmix:P.follows .mixedOrders=true) {fns:Fns} (hf:ZhI P fns) {fl:List Nat} (hfl:fnsB P fl=true) (cl:List Nat) (cnf:Nat→Zeu) (fuel:Nat):∀n,Zbk P cfg.tab (ZeM P cfg fns fl cl cnf fuel n)
 | 0=>hS
 | n+1=>by
  have ih:=ZkG hT hS hmix hf hfl cl cnf fuel n
  intro f args r h
  have h:(match cfg.sums f args with
   | some r=>some r
   | none=>bif fl.contains f then match P.funcs[f]? with
     | some fn=>bif Nat.ble args.length fn.ntmps then match bif cl.contains f then Zgo { cfg with sums:=ZeM P cfg fns fl cl cnf fuel n } fns fuel fn args else Zdl { cfg with sums:=ZeM P cfg fns fl cl cnf fuel n } fns (cnf f) fuel fn args with
       | some r=>some (true,r)
       | none=>none
      else none
     | none=>none
    else none)=some (true,r):=h
  split at h
  ·rename_i r' hr
   cases h
   exact hS f args r hr
  ·cases hc:fl.contains f with
   | false=>rw[hc] at h;cases h
   | true=>
    rw[hc,cond_true] at h
    split at h
    ·rename_i fn hfn
     cases hle:Nat.ble args.length fn.ntmps with
     | false=>rw[hle] at h;cases h
     | true=>
      rw[hle,cond_true] at h
      obtain⟨q1,q2,q3⟩:=Ziz hfl f fn (by unfold ZgF;rw[hc];exact hfn)
      have hl:=Nat.le_of_ble_eq_true hle
      cases hcl:cl.contains f with
      | true=>
       rw[hcl,cond_true] at h
       split at h
       ·rename_i r' he
        cases h
        have hb:∃c,fn.body=some c:=by
         cases hb:fn.body with
         | none=>
          unfold Zgo at he
          split at he
          ·unfold Zdl at he;rw[hb] at he;cases he
          ·cases he
         | some c=>exact⟨c,rfl⟩
        obtain⟨c,hb⟩:=hb
        exact⟨⟨fn,q1,q2,by rw[hb];rfl⟩,Zn2 (cfg:={ cfg with sums:=ZeM P cfg fns fl cl cnf fuel n }) hT ih hmix hf q1 hb (q3 c hb) hl he⟩
       ·cases h
      | false=>
       rw[hcl,cond_false] at h
       split at h
       ·rename_i r' he
        cases h
        have hb:∃c,fn.body=some c:=by
         cases hb:fn.body with
         | none=>unfold Zdl at he;rw[hb] at he;cases he
         | some c=>exact⟨c,rfl⟩
        obtain⟨c,hb⟩:=hb
        exact⟨⟨fn,q1,q2,by rw[hb];rfl⟩,Ziy (cfg:={ cfg with sums:=ZeM P cfg fns fl cl cnf fuel n }) hT ih hmix hf q1 hb (q3 c hb) hl he⟩
       ·cases h
    ·cases h
end
end
end Go.Eng
namespace Go.Eng
section
variable {X Y:Type} (g:X→Y)
theorem ZkH:∀(l:List Bool) (x:Option X),(Zge l x).map g=Zge l (x.map g)
 | [],_=>rfl
 | b :: r,x=>by cases b;·rfl
                ·exact ZkH r x
theorem Zjw (cfg:Cfg) (o:Oper) (s:St) (tr:List Rec) (k:St→List Rec→Option X):(ZeI cfg o s tr k).map g=ZeI cfg o s tr fun s t=>(k s t).map g:=by
 unfold ZeI
 split
 ·exact ZkH g _ _
 ·rfl
theorem Zo4 (cfg:Cfg) (o:Oper) (s:St) (tr:List Rec) (k:St→List Rec→Option X):(Zd2 cfg o s tr k).map g=Zd2 cfg o s tr fun s t=>(k s t).map g:=by
 unfold Zd2
 split
 ·split
  ·rename_i b _
   cases b <;> exact Zjw g _ _ _ _ _
  ·rfl
 ·exact Zjw g _ _ _ _ _
theorem Zg0 (cfg:Cfg) (all:List Oper):∀(l:List Oper) (s:St) (tr:List Rec) (k:St→List Rec→Option X),(ZbG cfg all l s tr k).map g=ZbG cfg all l s tr fun s t=>(k s t).map g
 | [],_,_,_=>rfl
 | o :: r,s,tr,k=>by
  have ih:=Zg0 cfg all r
  have step:∀s tr,(Zd2 cfg o s tr fun s tr=>ZbG cfg all r s tr k).map g=Zd2 cfg o s tr fun s tr=>ZbG cfg all r s tr fun s t=>(k s t).map g:=fun s tr=>by
   rw[Zo4]
   congr 1
   funext s t
   exact ih _ _ _
  unfold ZbG
  split
  ·exact step _ _
  ·split
   ·rfl
   ·split
    ·rename_i b _
     split <;> cases b <;> first | exact step _ _ | exact ih _ _ _
    ·exact ih _ _ _
    ·rfl
theorem Out.fold_map (k:Ex→St→Option X):∀o:Out,(o.fold k).map g=o.fold fun e s=>(k e s).map g
 | .leaf _ _=>rfl
 | .br b t f=>by cases b;·exact Out.fold_map k f
                 ·exact Out.fold_map k t
 | .tst b o=>by cases b;·rfl
                ·exact Out.fold_map k o
theorem ZpK (cfg:Cfg) (L:Loops):∀(c:Code) (s:St) (k:Ex→St→Option X),(Zcb cfg L c s k).map g=Zcb cfg L c s fun e s=>(k e s).map g:=by
 intro c
 induction c with
 | skip=>intros;rfl
 | label=>intros;rfl
 | region id ops draw=>
  intro s k
  cases draw
  ·simp only[Zcb];exact Zg0 g _ _ _ _ _ _
  ·simp only[Zcb]
   rw[Zg0]
   congr 1
   funext s tr
   cases(Zd3 tr||Zc6 (CheckFast.beforeF ops).toList 0 tr.reverse) <;> rfl
 | seq a b iha ihb=>
  intro s k
  simp only[Zcb]
  rw[iha]
  congr 1
  funext e s
  cases e <;> first | exact ihb _ _ | rfl
 | cond c a b iha ihb=>
  intro s k
  simp only[Zcb]
  split
  ·split
   ·rename_i x _
    cases x
    ·exact ihb _ _
    ·exact iha _ _
   ·rfl
  ·exact iha _ _
  ·exact ihb _ _
  ·rfl
 | block id a ih=>
  intro s k
  simp only[Zcb]
  rw[ih]
  congr 1
  funext e s
  cases e with
  | exit j=>
   show((bif Nat.beq j id then k .normal s else k (.exit j) s).map g)=bif Nat.beq j id then(k .normal s).map g else(k (.exit j) s).map g
   cases Nat.beq j id <;> rfl
  | _=>rfl
 | loop a ih=>
  intro s k
  simp only[Zcb]
  cases L.run (Zbo a) (head cfg.tab (L.keep (Zbo a)) (L.thaws (Zbo a)) s) with
  | none=>rfl
  | some o=>exact Out.fold_map g k o
 | exit=>intros;rfl
 | ret=>intros;rfl
 | _=>intros;rfl
end
noncomputable def Ze1 (w:V×List V→V×List V) (cfg:Cfg) (L:Loops) (fn:Func) (args:List V):Option (V×List V):=
 match fn.body with
 | none=>none
 | some c=>Zcb cfg L c (ZiR args) fun e s=>match e with
  | .exit _=>none
  | _=>(kept (args.flatMap lkOf) (Zgf cfg.tab fn.results.toList (ZeR (Zef cfg.tab s s.lent) L.cuts))).map w
theorem ZhJ (w:V×List V→V×List V) (cfg:Cfg) (L:Loops) (fn:Func) (args:List V):Ze1 w cfg L fn args=(Zem cfg L fn args).map w:=by
 unfold Ze1 Zem
 cases fn.body with
 | none=>rfl
 | some c=>
  dsimp only
  rw[ZpK]
  congr 1
  funext e s
  cases e <;> rfl
structure En (P:Program) (tab:Tab) where
 f:FuncId
 s:List V→Option (Bool×(V×List V))
 ok:∀args r,s args=some (true,r)→SumOk P tab f args r
 en:Zfy P f
 par:List (Option TypeId)
 wr:Bool
variable {P:Program} {tab:Tab}
def ZkI:List (En P tab)→Sums
 | [],_,_=>none
 | e :: r,f,args=>bif Nat.beq e.f f then(match e.s args with
  | some x=>some x
  | none=>ZkI r f args) else ZkI r f args
def parL:List (En P tab)→FuncId→List (Option TypeId)
 | [],_=>[]
 | e :: r,f=>bif Nat.beq e.f f then e.par else parL r f
def mutL:List (En P tab)→FuncId→Bool
 | [],_=>false
 | e :: r,f=>bif Nat.beq e.f f then e.wr else mutL r f
def anyN:List Nat→Nat→Bool
 | [],_=>false
 | x :: r,f=>bif Nat.beq f x then true else anyN r f
def Z5 (l:List (En P tab)) (deep:Bool) (ro:List Nat):Cfg:=⟨tab,ZkI l,mutL l,parL l,deep,anyN ro⟩
theorem Zgp:∀l:List (En P tab),Zbk P tab (ZkI l)
 | [],_,_,_,h=>by cases h
 | e :: r,f,args,x,h=>by
  unfold ZkI at h
  cases hb:Nat.beq e.f f with
  | false=>rw[hb] at h;exact Zgp r f args x h
  | true=>
   rw[hb,cond_true] at h
   obtain rfl:=ZdB hb
   split at h
   ·rename_i y hy
    cases h
    exact⟨e.en,e.ok args x hy⟩
   ·exact Zgp r _ args x h
def fnB (fn:Func) (A:List S2) (tab:Tab) (ws os:List (List S1)):Bool:=
 fnOk fn&&(Nat.ble A.length fn.ntmps&&(((ws.all fun s=>s.all (ZcL tab))&&(os.all fun s=>s.all (ZcL tab)))&&(!(fn.name == "runtime.NumGoroutine")&&fn.body.isSome)))
theorem Zcg {fn:Func} {A:List S2} {tab:Tab} {ws os:List (List S1)} (h:fnB fn A tab ws os=true):fnOk fn=true∧Nat.ble A.length fn.ntmps=true∧((ws.all fun s=>s.all (ZcL tab))&&(os.all fun s=>s.all (ZcL tab)))=true∧(!(fn.name == "runtime.NumGoroutine")&&fn.body.isSome)=true:=by
 unfold fnB at h
 obtain⟨h1,h2⟩:=(Bool.and_eq_true _ _).mp h
 obtain⟨h3,h4⟩:=(Bool.and_eq_true _ _).mp h2
 obtain⟨h5,h6⟩:=(Bool.and_eq_true _ _).mp h4
 exact⟨h1,h3,h5,h6⟩
def enP (hB:Base P tab) (l:List (En P tab)) (deep:Bool) (ro:List Nat) {f:FuncId} {fn:Func} (hf:P.funcs[f]? = some fn) {L:Loops} (hL:ZC (Z5 l deep ro) L (ZM fn)) (A:List S2)
  {α:Type} [Inhabited α] (F:List V→Option α) (sh:α→V×List V) (ws os:List (List S1)) (par:List (Option TypeId)) (wr:Bool) (h:fnB fn A tab ws os=true)
  (E:∀a,Agr id sh (F a) (Ze1 (wkF ws os) (Z5 l deep ro) L fn (ZdM A a 0))):En P tab:=
 {f:=f,s:=fun args=>bif Zbu A args then some ((F args).isSome,sh ((F args).getD default)) else none,
  ok:=Base.sum (cfg:=Z5 l deep ro) hB (Zgp l) hf (Zcg h).1 hL A (Zcg h).2.1 ws os (Zcg h).2.2.1 fun args ha=>by
   intro r e
   have q:=E args r e
   rw[ZhJ,ha] at q
   simpa using q
  en:=Zcr hf (Zcg h).2.2.2,par:=par,wr:=wr }
def enT (hB:Base P tab) (l:List (En P tab)) (deep:Bool) (ro:List Nat) {f:FuncId} {fn:Func} (hf:P.funcs[f]? = some fn) {L:Loops} (hL:ZC (Z5 l deep ro) L (ZM fn)) (A:List S2)
  {α:Type} (F:List V→α) (sh:α→V×List V) (ws os:List (List S1)) (par:List (Option TypeId)) (wr:Bool) (h:fnB fn A tab ws os=true)
  (E:∀a,Tot id sh (F a) (Ze1 (wkF ws os) (Z5 l deep ro) L fn (ZdM A a 0))):En P tab:=
 {f:=f,s:=fun args=>bif Zbu A args then some (true,sh (F args)) else none,
  ok:=Base.sumT (cfg:=Z5 l deep ro) hB (Zgp l) hf (Zcg h).1 hL A (Zcg h).2.1 ws os (Zcg h).2.2.1 fun args ha=>by
   have q:=E args
   rw[ZhJ,ha] at q
   unfold Tot at *
   simpa using q
  en:=Zcr hf (Zcg h).2.2.2,par:=par,wr:=wr }
def enN (hB:Base P tab) (l:List (En P tab)) (deep:Bool) (ro:List Nat) {f:FuncId} {fn:Func} (hf:P.funcs[f]? = some fn) {L:Loops} (hL:ZC (Z5 l deep ro) L (ZM fn)) (T:TypeId)
  {α:Type} [Inhabited α] (F:List V→Option α) (sh:α→V×List V) (ws os:List (List S1)) (par:List (Option TypeId)) (wr:Bool) (h:fnB fn [.one (.inl T)] tab ws os=true)
  (E1:∀l',Agr id sh (F l') (Ze1 (wkF ws os) (Z5 l deep ro) L fn [.nn T l'])) (E2:Agr id sh (F []) (Ze1 (wkF ws os) (Z5 l deep ro) L fn [.nl T])):En P tab:=
 {f:=f,s:=fun args=>bif Zbu [.one (.inl T)] args then some ((F (rd args 0).L).isSome,sh ((F (rd args 0).L).getD default)) else none,
  ok:=Base.sumNil (cfg:=Z5 l deep ro) hB (Zgp l) hf (Zcg h).1 hL T (Zcg h).2.1 ws os (Zcg h).2.2.1
   (fun l' r e=>by
    have q:=E1 l' r e
    rw[ZhJ] at q
    simpa using q)
   (fun r e=>by
    have q:=E2 r e
    rw[ZhJ] at q
    simpa using q)
  en:=Zcr hf (Zcg h).2.2.2,par:=par,wr:=wr }
section
variable {α β Y:Type} {sh:α→Y}
theorem g0:Agr id sh (none:Option α) none:=fun _ h=>by cases h
theorem g1 {c:Bool} {a b:Option α} {A B:Option Y} (h1:Agr id sh a A) (h2:Agr id sh b B):Agr id sh (bif c then a else b) (bif c then A else B):=agr_if h1 h2
theorem g2 [Inhabited β] {F:Option β} {f:β→Option α} {g:β→Option Y} (h:∀x,Agr id sh (f x) (g x)):Agr id sh (F.bind f) (rcall F g):=agr_call h
theorem g4 {r:α}:Agr id sh (some r) (some (sh r)):=agr_leaf rfl
theorem g5 {c:Bool} {a b:α} {A B:Option Y} (h1:Tot id sh a A) (h2:Tot id sh b B):Tot id sh (bif c then a else b) (bif c then A else B):=tot_if h1 h2
theorem g7 {r:α}:Tot id sh r (some (sh r)):=tot_leaf rfl
theorem gA {F:Option α} {t u:Option Y} (h:Agr id sh F t) (e:u=t):Agr id sh F u:=e▸h
theorem gT {F:α} {t u:Option Y} (h:Tot id sh F t) (e:u=t):Tot id sh F u:=e▸h
end
def lpB (fn:Func) (i:Nat):Code:=(ZcS (ZM fn)).getD i .skip
def slv:Nat→List V→List (Nat×V)
 | _,[]=>[]
 | n,v :: r=>(n,v) :: slv n r
def bx (v:V):Option Blk:=some (.box 0 v.cells)
def rb (l:List V):Option Blk:=some (.row 0 false l)
def hpv:List (Option Blk)→List (Nat×Option Blk)
 | []=>[]
 | v :: r=>(0,v) :: hpv r
def stv (vs:List V) (bs:List (Option Blk)):St:=⟨slv 0 vs,hpv bs,0,[]⟩
def pk0 {α:Type} (ps:α→List (Ex×St)) (r:α):Ex×St:=pick 0 0 (ps r)
def pk1 {β:Type} (ps:Nat×β→List (Ex×St)) (r:Nat×β):Ex×St:=pick r.1 0 (ps r)
def le0 {α:Type} [Inhabited α] (key:Nat) (ss:SS) (F:St→Option α) (ps:α→List (Ex×St)):LE:=⟨key,ss,fun s=>Out.tst (F s).isSome (brs 0 0 (ps ((F s).getD default)))⟩
def le1 {β:Type} [Inhabited β] (key:Nat) (ss:SS) (F:St→Option (Nat×β)) (ps:Nat×β→List (Ex×St)):LE:=⟨key,ss,fun s=>Out.tst (F s).isSome (brs (((F s).getD default).1) 0 (ps ((F s).getD default)))⟩
section
variable {cfg:Cfg} {L:Loops} {body:Code} {key:Nat} {ss:SS}
theorem gd0 {α:Type} [Inhabited α] {F:St→Option α} {t:St→Option (Ex×St)} (fuel:St→Nat) {ps:α→List (Ex×St)} (H:∀st,Agr id (pk0 ps) (F st) (t st)) (e:∀st,t st=ZJ cfg L body (fuel st) (ss.mk' st)):
  Good cfg L body (le0 key ss F ps):=
 Zou (F:=F) fuel (ix:=fun _=>0) (ps:=ps) fun st hs=>by
  have:=H st
  rw[e st,hs] at this
  exact this
theorem gd1 {β:Type} [Inhabited β] {F:St→Option (Nat×β)} {t:St→Option (Ex×St)} (fuel:St→Nat) {ps:Nat×β→List (Ex×St)} (H:∀st,Agr id (pk1 ps) (F st) (t st)) (e:∀st,t st=ZJ cfg L body (fuel st) (ss.mk' st)):
  Good cfg L body (le1 key ss F ps):=
 Zou (F:=F) fuel (ix:=fun r=>r.1) (ps:=ps) fun st hs=>by
  have:=H st
  rw[e st,hs] at this
  exact this
end
end Go.Eng
namespace Go.Eng
def I64 (n:Int):Prop:=-9223372036854775808≤n∧n≤9223372036854775807
theorem Zax {n:Int} (h1 : -9223372036854775808≤n) (h2:n≤9223372036854775807):IntKind.i64.wrap n=n:=IntWalk.i64_in n ⟨h1,h2⟩
def LW (w:V→Prop) (l:List V):Prop:=l.length≤9223372036854775807∧∀x∈l,w x
def ZaB (x:V):Prop:=0≤gi x 0∧gi x 0≤255
def W_int (x:V):Prop:=I64 (gi x 0)
theorem LW.rd {w:V→Prop} {l:List V} (h:LW w l) {i:Nat} (hi:i<l.length):w (Eng.rd l i):=by
 have:Eng.rd l i=l[i]:=by simp[Eng.rd,List.getD,hi]
 rw[this];exact h.2 _ (List.getElem_mem hi)
theorem ZkJ (k:IntKind) (n:Int) (l:List V):gi (.agg (.int k n :: l)) 0=n:=rfl
theorem ZkK (T:TypeId) (x l:List V):gl (.agg (.inl T x :: l)) 0=x:=rfl
theorem ZkL (v:V) (l:List V) (j:Nat):gi (.agg (v :: l)) (j+1)=gi (.agg l) j:=rfl
theorem ZkM (v:V) (l:List V) (j:Nat):gl (.agg (v :: l)) (j+1)=gl (.agg l) j:=rfl
theorem Zq {i n:Nat} (h:i<n):Zn (i:Int) n=true:=by simp[Zn];omega
theorem Zaj {i n:Nat} (h:i<n):decide (((i:Nat):Int)<((n:Nat):Int))=true:=by simp;omega
theorem Zab (n:Nat):decide (((n:Nat):Int)<((n:Nat):Int))=false:=by simp
theorem Zah {i n:Nat} (h:i<n) (hn:n≤9223372036854775807):IntKind.i64.wrap ((i:Int)+1)=((i+1:Nat):Int):=by
 rw[Zax (by omega) (by omega)];omega
theorem Za0 (n:Nat):(((n:Nat):Int)-0).toNat+1=n+1:=by omega
theorem ZhK {n b:Nat} (h:n*b≤140737488355328) (h1:n≤9223372036854775807):Zv n b=true:=by simp[Zv,h,h1]
theorem ZmR {σ ρ:Type} {F:Nat→σ→Int→ρ} {n:Nat} (I:Nat→σ→Prop) (Q:ρ→Prop)
  (step:∀m i s,i<n→I i s→(∃s',F (m+1) s (i:Int)=F m s' ((i+1:Nat):Int)∧I (i+1) s')∨Q (F (m+1) s (i:Int)))
  (fin:∀m s,I n s→Q (F (m+1) s (n:Int))):
  ∀m i s,i≤n→n-i<m→I i s→Q (F m s (i:Int))
 | 0,i,s,_,h,_=>by omega
 | m+1,i,s,hi,hm,hI=>by
  rcases Nat.lt_or_ge i n with hlt | hge
  ·rcases step m i s hlt hI with⟨s',e,hI'⟩ | h
   ·rw[e];exact ZmR I Q step fin m (i+1) s' (by omega) (by omega) hI'
   ·exact h
  ·obtain rfl:i=n:=by omega
   exact fin m s hI
theorem Zca {σ ρ:Type} {F:Nat→σ→Int→ρ} {n:Nat} (I:Nat→σ→Prop) (Q:ρ→Prop)
  (step:∀m i s,i<n→I i s→(∃s',F (m+1) s (i:Int)=F m s' ((i+1:Nat):Int)∧I (i+1) s')∨Q (F (m+1) s (i:Int)))
  (fin:∀m s,I n s→Q (F (m+1) s (n:Int))) {s:σ} (h:I 0 s):Q (F (n+1) s 0):=
 ZmR I Q step fin (n+1) 0 s (by omega) (by omega) h
theorem ZfB {ρ:Type} {F:Nat→Int→ρ} {n:Nat} {out:ρ} (h1:∀m (i:Nat),i<n→F (m+1) (i:Int)=F m ((i+1:Nat):Int)) (h0:∀m,F (m+1) (n:Int)=out):F (n+1) 0=out:=
 Zca (F:=fun m (_:Unit) i=>F m i) (n:=n) (fun _ _=>True) (fun o=>o=out) (fun m i s hi _=>.inl ⟨(),h1 m i hi,trivial⟩) (fun m s _=>h0 m) (s:=()) trivial
end Go.Eng
namespace Go.Eng
open Go.ChangeShapes Go.WideShapes
inductive Wt (tab:Tab):Ck→V→Prop where
 | int (k:IntKind) (n:Int):(Lit.int k n).wf=true→Wt tab (.int k) (.int k n)
 | bool (b:Bool):Wt tab .bool (.bool b)
 | str (s:ByteArray):s.size≤9223372036854775807→Wt tab .str (.str (Z9 s))
 | sl (T:TypeId) (ty:Ty) (l:List V):tab T=some ty→l.length≤9223372036854775807→(∀i,i<l.length→ZbS ty (l.getD i .dead))→
   (∀i j,i<l.length→j<ty.kinds.length→Wt tab (ty.kinds.getD j .other) ((l.getD i .dead).cell j))→Wt tab (.sl T) (.inl T l)
def WtT (tab:Tab) (T:TypeId) (x:V):Prop:=∃ty,tab T=some ty∧ZbS ty x∧∀j,j<ty.kinds.length→Wt tab (ty.kinds.getD j .other) (x.cell j)
theorem Wt.kindOk {tab:Tab} {k:Ck} {x:V} (h:Wt tab k x):kindOk k x:=by
 cases h <;> simp[Eng.kindOk]
def Zfc (tab:Tab) (T:TypeId):List Ck:=match tab T with
 | some ty=>ty.kinds
 | none=>[]
def ZiZ (P:Program) (tab:Tab) (R:List TypeId):Nat→List Field→Bool
 | _,[]=>true
 | o,f :: r=>R.contains f.type&&(decide (f.offset=o)&&(decide (P.cellsOf f.type=(Zfc tab f.type).length)&&ZiZ P tab R (o+(Zfc tab f.type).length) r))
def ZkN (P:Program) (tab:Tab) (R:List TypeId) (t:TypeId):Bool:=
 match tab t with
 | none=>false
 | some ty=>decide (P.cellsOf t=ty.kinds.length)&&match P.underlying t with
  | some (.int k)=>!ty.agg&&decide (ty.kinds=[.int k])
  | some .bool=>!ty.agg&&decide (ty.kinds=[.bool])
  | some .string=>!ty.agg&&decide (ty.kinds=[.str])
  | some (.slice e)=>!ty.agg&&(decide (ty.kinds=[.sl e])&&R.contains e)
  | some (.struct fs)=>ty.agg&&(ZiZ P tab R 0 fs.toList&&decide (ty.kinds=fs.toList.flatMap fun f=>Zfc tab f.type))
  | _=>false
def readB (P:Program) (tab:Tab) (R:List TypeId):Bool:=R.all (ZkN P tab R)
section
variable {H:Type} {enc:TypeId×Value→H} {P:Program} {tab:Tab} {w:World} {sp:Nat→Bool} {held:Bool}
def CellsIs (tab:Tab) (w:World) (ks:List Ck) (cs:List Value) (ys:List V):Prop:=
 ys.length=ks.length∧cs.length=ks.length∧(∀j,j<ks.length→Rp tab w (·< w.heap.size) (ys.getD j .dead) (cs.getD j undef))∧∀j,j<ks.length→Wt tab (ks.getD j .other) (ys.getD j .dead)
theorem CellsIs.one {k:Ck} {v:Value} {y:V} (h1:Rp tab w (·< w.heap.size) y v) (h2:Wt tab k y):CellsIs tab w [k] [v] [y]:=by
 refine⟨rfl,rfl,fun j hj=>?_,fun j hj=>?_⟩ <;>
 ·have:j=0:=by simpa using hj
  subst this
  assumption
theorem CellsIs.append {k1 k2:List Ck} {c1 c2:List Value} {y1 y2:List V} (h1:CellsIs tab w k1 c1 y1) (h2:CellsIs tab w k2 c2 y2):CellsIs tab w (k1++k2) (c1++c2) (y1++y2):=by
 obtain⟨a1,a2,a3,a4⟩:=h1
 obtain⟨b1,b2,b3,b4⟩:=h2
 refine⟨by simp[a1,b1],by simp[a2,b2],fun j hj=>?_,fun j hj=>?_⟩
 ·simp only[List.length_append] at hj
  by_cases h:j<k1.length
  ·have e1:(y1++y2).getD j .dead=y1.getD j .dead:=by simp[List.getD,List.getElem?_append_left (show j<y1.length by omega)]
   have e2:(c1++c2).getD j undef=c1.getD j undef:=by simp[List.getD,List.getElem?_append_left (show j<c1.length by omega)]
   rw[e1,e2];exact a3 j h
  ·have e1:(y1++y2).getD j .dead=y2.getD (j-k1.length) .dead:=by simp[List.getD,List.getElem?_append_right (show y1.length≤j by omega),a1]
   have e2:(c1++c2).getD j undef=c2.getD (j-k1.length) undef:=by simp[List.getD,List.getElem?_append_right (show c1.length≤j by omega),a2]
   rw[e1,e2];exact b3 _ (by omega)
 ·simp only[List.length_append] at hj
  by_cases h:j<k1.length
  ·have e1:(y1++y2).getD j .dead=y1.getD j .dead:=by simp[List.getD,List.getElem?_append_left (show j<y1.length by omega)]
   have e2:(k1++k2).getD j .other=k1.getD j .other:=by simp[List.getD,List.getElem?_append_left (show j<k1.length by omega)]
   rw[e1,e2];exact a4 j h
  ·have e1:(y1++y2).getD j .dead=y2.getD (j-k1.length) .dead:=by simp[List.getD,List.getElem?_append_right (show y1.length≤j by omega),a1]
   have e2:(k1++k2).getD j .other=k2.getD (j-k1.length) .other:=by simp[List.getD,List.getElem?_append_right (show k1.length≤j by omega)]
   rw[e1,e2];exact b4 _ (by omega)
theorem CellsIs.shape {T:TypeId} {ty:Ty} (hty:TyOk P tab T ty) {cs:List Value} {ys:List V} (h:CellsIs tab w ty.kinds cs ys):ZbS ty (Eng.mk ty.agg ys)∧(Eng.mk ty.agg ys).cells=ys:=
 Zhw hty h.1 fun j hj=>(h.2.2.2 j hj).kindOk
theorem Zjx {R:List TypeId} {n:Nat} (ih:∀t∈R,∀cs x,DataW.trod enc P w 0 sp held n t cs=some x→∃ty ys,tab t=some ty∧CellsIs tab w ty.kinds cs ys) (cs:List Value):
  ∀(fs:List Field) (o:Nat) (xs:List (DataW H×List MemPlace)),ZiZ P tab R o fs=true→
   (fs.mapM fun f=>DataW.trod enc P w 0 sp held n f.type ((cs.drop f.offset).take (P.cellsOf f.type)))=some xs→
   ∃ys,CellsIs tab w (fs.flatMap fun f=>Zfc tab f.type) ((cs.drop o).take ((fs.flatMap fun f=>Zfc tab f.type).length)) ys
 | [],o,xs,_,_=>⟨[],rfl,by simp,fun j hj=>by simp at hj,fun j hj=>by simp at hj⟩
 | f :: fs,o,xs,hB,hx=>by
  simp only[ZiZ,Bool.and_eq_true,decide_eq_true_eq,List.contains_iff_mem] at hB
  obtain⟨h1,h2,h3,h4⟩:=hB
  rw[List.mapM_cons] at hx
  obtain⟨x,hx1,hx2⟩:=Option.bind_eq_some_iff.1 hx
  obtain⟨xr,hx3,hx4⟩:=Option.bind_eq_some_iff.1 hx2
  obtain⟨ty,ys1,e1,c1⟩:=ih _ h1 _ _ hx1
  obtain⟨ys2,c2⟩:=Zjx ih cs fs _ _ h4 hx3
  have ek:Zfc tab f.type=ty.kinds:=by simp[Zfc,e1]
  refine⟨ys1++ys2,?_⟩
  rw[h2,h3,ek] at c1
  rw[ek] at c2
  have:=c1.append c2
  rw[List.flatMap_cons,ek]
  refine cast ?_ this
  congr 1
  rw[List.length_append]
  rw[←List.drop_drop,List.take_add]
theorem add_zero' (a:Addr):a.add 0=a:=by simp[Addr.add]
theorem ZlL {a:Addr} (h:a.spot=none) (n:Nat):a.add n=⟨a.block,a.off+n,none⟩:=by
 cases a
 simp only at h
 subst h
 unfold Addr.add
 split
 ·simp_all
 ·rfl
theorem ZkO (hT:ZB P tab) {R:List TypeId} (hR:readB P tab R=true):∀(n:Nat),∀t∈R,∀(cs:List Value) (x:DataW H×List MemPlace),DataW.trod enc P w 0 sp held n t cs=some x→
  ∃ty ys,tab t=some ty∧CellsIs tab w ty.kinds cs ys
 | 0,t,ht,cs,x,h=>by simp[DataW.trod] at h
 | n+1,t,ht,cs,x,h=>by
  have h1:=List.all_eq_true.1 hR t ht
  unfold ZkN at h1
  split at h1
  ·cases h1
  rename_i ty hty
  simp only[Bool.and_eq_true,decide_eq_true_eq] at h1
  obtain⟨hcells,h1⟩:=h1
  refine⟨ty,?_⟩
  have ih:=ZkO hT hR n
  unfold DataW.trod at h
  split at h1
  ·rename_i k hu
   simp only[Bool.and_eq_true,decide_eq_true_eq] at h1
   rw[hu] at h
   split at h <;> simp_all
   exact⟨_,CellsIs.one (.int _ _) (.int _ _ (by rename_i hh;exact h.1.2))⟩
  ·rename_i hu
   simp only[Bool.and_eq_true,decide_eq_true_eq] at h1
   rw[hu] at h
   split at h <;> simp_all
   exact⟨_,CellsIs.one (.bool _) (.bool _)⟩
  ·rename_i hu
   simp only[Bool.and_eq_true,decide_eq_true_eq] at h1
   rw[hu] at h
   split at h <;> simp_all
   exact⟨_,CellsIs.one (.str _ _ rfl) (.str _ (by rename_i hh;have:=h.1;unfold maxLen at this;omega))⟩
  ·rename_i e hu
   simp only[Bool.and_eq_true,decide_eq_true_eq,List.contains_iff_mem,Bool.not_eq_true'] at h1
   obtain⟨ha,hk,he⟩:=h1
   rw[hu] at h
   have e1:=List.all_eq_true.1 hR e he
   obtain⟨ty2,hty2⟩:∃ty2,tab e=some ty2:=by
    unfold ZkN at e1
    split at e1
    ·cases e1
    ·rename_i ty2 h2;exact⟨ty2,h2⟩
   have hsz:P.cellsOf e=ty2.kinds.length:=by
    unfold ZkN at e1
    rw[hty2] at e1
    simp only[Bool.and_eq_true,decide_eq_true_eq] at e1
    exact e1.1
   have hpos:=(hT e ty2 hty2).pos
   rw[hk]
   split at h
   case h_7=>
    exact⟨_,hty,CellsIs.one (.inl e [] ty2 none 0 0 0 (fun _ _=>undef) hty2 (by simp) (by simp) (by simp) (by simp) (by simp)) (.sl e ty2 [] hty2 (by simp) (by simp) (by simp))⟩
   case h_8 e' a len cap heq=>
    cases heq
    simp only at h
    split at h
    case isFalse=>cases h
    rename_i hc
    obtain⟨-,hlc,hcm⟩:=hc
    obtain⟨elems,hel,-⟩:=Option.bind_eq_some_iff.1 h
    have hlen:elems.length=len:=by simpa using mapM_some_length hel
    have hone:∀i,i<len→∃csi ys,w.cells? 0 (a.add (i*P.cellsOf e)) (P.cellsOf e)=some csi∧CellsIs tab w ty2.kinds csi ys:=by
     intro i hi
     have hg:=mapM_some_get hel i i (by simp[hi])
     obtain⟨y,hy⟩:∃y,elems[i]? = some y:=⟨elems[i],by simp[hlen,hi]⟩
     rw[hy] at hg
     obtain⟨csi,k1,k2⟩:=Option.bind_eq_some_iff.1 hg
     obtain⟨ty3,ys,k3,k4⟩:=ih e he csi y k2
     obtain rfl:ty2=ty3:=Option.some.inj (hty2.symm.trans k3)
     exact⟨csi,ys,k1,k4⟩
    have hfull:∀i,∃csi ys,i<len→w.cells? 0 (a.add (i*P.cellsOf e)) (P.cellsOf e)=some csi∧CellsIs tab w ty2.kinds csi ys:=fun i=>by
     by_cases hi:i<len
     ·obtain⟨csi,ys,k⟩:=hone i hi;exact⟨csi,ys,fun _=>k⟩
     ·exact⟨[],[],fun h=>absurd h hi⟩
    have hfull':=Classical.axiomOfChoice hfull
    obtain⟨C,hC⟩:=hfull'
    have hC':=Classical.axiomOfChoice hC
    obtain⟨Y,hY⟩:=hC'
    let l:List V:=(List.range len).map fun i=>Eng.mk ty2.agg (Y i)
    have hll:l.length=len:=by simp[l]
    have hget:∀i,i<len→l.getD i .dead=Eng.mk ty2.agg (Y i):=fun i hi=>by simp[l,List.getD,hi]
    have hsh:∀i,i<l.length→ZbS ty2 (l.getD i .dead):=fun i hi=>by
     rw[hll] at hi
     rw[hget i hi];exact((hY i hi).2.shape (hT e ty2 hty2)).1
    have hcl:∀i j,i<len→(l.getD i .dead).cell j=(Y i).getD j .dead:=fun i j hi=>by
     rw[hget i hi,V.cell,((hY i hi).2.shape (hT e ty2 hty2)).2]
    have hw0:∀i j,i<len→j<ty2.kinds.length→w.cell? ((a.add (i*ty2.kinds.length)).add j)=some ((C i).getD j undef):=fun i j hi hj=>by
     obtain⟨k1,k2⟩:=hY i hi
     obtain⟨-,q2,q3⟩:=World.cells?_some k1
     have:=q3 j (by omega)
     have hj':j<(C i).length:=by omega
     rw[List.getElem?_eq_getElem hj'] at this
     have e1:(C i).getD j undef=(C i)[j]:=by simp[List.getD,hj']
     rw[e1,←this,hsz]
    have hspot:0<len→a.spot=none:=fun h0=>by
     have:=hw0 0 0 h0 hpos
     rw[Nat.zero_mul,add_zero',add_zero'] at this
     unfold World.cell? at this
     split at this
     ·split at this
      ·cases this
      ·rename_i hn;simpa using hn
     ·cases this
    have hw:∀i j,i<len→j<ty2.kinds.length→w.cell? ⟨a.block,a.off+i*ty2.kinds.length+j,none⟩=some ((C i).getD j undef)∧a.block<w.heap.size:=fun i j hi hj=>by
     have:=hw0 i j hi hj
     rw[ZlL (hspot (by omega)),ZlL rfl] at this
     exact⟨this,World.block_lt_of_cell? (w:=w) (a:=⟨a.block,a.off+i*ty2.kinds.length+j,none⟩) (h:=this)⟩
    refine⟨[.inl e l],hty,CellsIs.one ?_ ?_⟩
    ·have:=Rp.inl (tab:=tab) (w:=w) (ok:=(·< w.heap.size)) e l ty2 (some a) cap a.block a.off (fun i j=>(C i).getD j undef) hty2 (by omega) (fun hne=>?_) hsh (fun i j hi hj=>?_) (fun i j hi hj=>?_)
     ·rw[hll] at this;exact this
     ·have h0:0<len:=by rw[←hll];exact List.length_pos_iff.2 hne
      refine⟨?_,(hw 0 0 h0 hpos).2⟩
      have:=hspot h0
      cases a;simp_all
     ·rw[hll] at hi
      exact(hw i j hi hj).1
     ·rw[hll] at hi
      rw[hcl i j hi]
      exact(hY i hi).2.2.2.1 j hj
    ·refine .sl e ty2 l hty2 (by unfold maxLen at hcm;omega) hsh fun i j hi hj=>?_
     rw[hll] at hi
     rw[hcl i j hi]
     exact(hY i hi).2.2.2.2 j hj
   all_goals first | (cases h;done) | simp_all
  ·rename_i fs hu
   simp only[Bool.and_eq_true,decide_eq_true_eq] at h1
   obtain⟨ha,hf,hk⟩:=h1
   rw[hu] at h
   split at h
   case h_9 fs' heq=>
    cases heq
    split at h
    case isFalse=>cases h
    rename_i hcl
    obtain⟨xs,hx,-⟩:=Option.map_eq_some_iff.1 h
    obtain⟨ys,hys⟩:=Zjx ih _ fs.toList 0 xs hf hx
    rw[←hk,List.drop_zero,List.take_of_length_le (by omega)] at hys
    exact⟨ys,hty,hys⟩
   all_goals first | (cases h;done) | simp_all
  ·cases h1
theorem arg_read (hT:ZB P tab) {R:List TypeId} (hR:readB P tab R=true) {t:TypeId} (ht:t∈R) {v:Value} {d:DataW H} {ps:List MemPlace} (hv:Value.okWide P w .any 0 t v) (h:DataW.Trod enc P w 0 sp held t v d ps):
  ∃x,WtT tab t x∧Rp tab w (·< w.heap.size) x v:=by
 obtain⟨n,hn⟩:=h
 obtain⟨ty,ys,e1,e2⟩:=ZkO hT hR n t ht _ _ hn
 have hty:=hT t ty e1
 obtain⟨s1,s2⟩:=e2.shape hty
 refine⟨Eng.mk ty.agg ys,⟨ty,e1,s1,fun j hj=>by rw[V.cell,s2];exact e2.2.2.2 j hj⟩,?_⟩
 cases ha:ty.agg with
 | true=>
  obtain⟨fs,hu,-⟩:=hty.agg ha
  unfold Value.okWide at hv
  rw[hu] at hv
  obtain⟨cs,rfl,-⟩:=hv
  have hl:=e2.2.1
  have:Rp tab w (·< w.heap.size) (.agg ys) (.agg cs.toList.toArray):=.agg ys cs.toList (by
   have:cs.toList.length=ty.kinds.length:=hl
   rw[this,e2.1]) fun j hj=>e2.2.2.1 j (by rw[←e2.1];exact hj)
  simpa [Eng.mk] using this
 | false=>
  obtain⟨h1,-,dd,hu,hns,hna⟩:=hty.flat ha
  have hone:v.cells = #[v]:=by
   cases v with
   | agg cs=>
    exfalso
    unfold Value.okWide at hv
    rw[hu] at hv
    have hv:Cell.okWide P w .any 0 t (.agg cs):=by
     cases dd <;> first | exact hv | exact absurd rfl (hns _) | exact absurd rfl (hna _ _)
    unfold Cell.okWide at hv
    rw[hu] at hv
    cases dd <;> first | exact hv | (simp[Cell.ok,hu] at hv)
   | _=>rfl
  have h0:=e2.2.2.1 0 (by omega)
  have hyl:=e2.1
  obtain⟨y,rfl⟩:∃y,ys=[y]:=by
   match ys,hyl with
   | [y],_=>exact⟨y,rfl⟩
   | [],h=>simp at h;omega
   | _ :: _ :: _,h=>simp at h;omega
  rw[hone] at h0
  simpa [Eng.mk] using h0
inductive WtAll (tab:Tab):List TypeId→List V→Prop where
 | nil:WtAll tab [] []
 | cons {t:TypeId} {ts:List TypeId} {x:V} {xs:List V}:WtT tab t x→WtAll tab ts xs→WtAll tab (t :: ts) (x :: xs)
theorem ZlM (hT:ZB P tab) {R:List TypeId} (hR:readB P tab R=true):∀{ts:List TypeId} {vs:List Value} {ds:List (DataW H)} {ps:List MemPlace},(∀t∈ts,t∈R)→
  (∀(j:Nat) t v,ts[j]? = some t→vs[j]? = some v→Value.okWide P w .any 0 t v)→DataW.TrodAll enc P w 0 sp held ts vs ds ps→
  ∃xs,WtAll tab ts xs∧RqL (Rq2 tab w (·< w.heap.size)) xs vs [] []
 | [],vs,ds,ps,_,_,h=>by
  obtain⟨rfl,rfl,rfl⟩:=trodAll_nil h
  exact⟨[], .nil, .nil⟩
 | t :: ts,vs,ds,ps,hR',hv,h=>by
  obtain⟨v,vs1,d,ds1,a,b,rfl,rfl,rfl,h1,h2⟩:=trodAll_cons h
  obtain⟨x,hx,hr⟩:=arg_read hT hR (hR' t (by simp)) (hv 0 t v rfl rfl) h1
  obtain⟨xs,hxs,hrs⟩:=ZlM hT hR (fun t ht=>hR' t (by simp[ht])) (fun j t v h3 h4=>hv (j+1) t v (by simpa using h3) (by simpa using h4)) h2
  exact⟨x :: xs, .cons hx hxs, .cons (t:=[]) (n:=[]) (.one (.tree hr)) hrs⟩
end
section
variable {H:Type} {enc:TypeId×Value→H} {P:Program} {tab:Tab} {W W':World}
theorem ZpL (hk:KeptBut [] W W') {a:Addr} (h:a.block<W.heap.size):W'.frozen? a=W.frozen? a:=by
 unfold World.frozen?
 rw[hk.block a.block h (by simp)]
theorem same_of (hk:KeptBut [] W W') {p:MemPlace} (h:p.block<W.heap.size):W.sameAt W' p:=by
 cases p with
 | cell b off=>
  show W'.cell? _=W.cell? _
  unfold World.cell?
  rw[hk.block b h (by simp)]
 | map b=>exact hk.block b h (by simp)
theorem kept_of (hk:KeptBut [] W W') (may:MemPlace→Prop):W.keptBut W' may:=by
 refine⟨hk.os,hk.output,fun i hi=>?_⟩
 rw[hk.block i hi (by simp)]
 split
 ·rename_i c t fr c' t' fr' h1 h2
  rw[h1] at h2;cases h2
  exact⟨rfl,rfl,rfl,fun _ _=>rfl⟩
 ·rename_i es clock es' clock' h1 h2
  rw[h1] at h2;cases h2
  exact .inr ⟨rfl,rfl⟩
 ·rfl
theorem Zh2 {T:TypeId→Prop} (K:Kids P T) (hz:∀{t e:TypeId},T t→P.underlying t=some (.slice e)→0<P.cellsOf e) {sp':Nat→Bool}:
  ∀{ts:List TypeId} {vs:List Value} {ds:List (DataW H)} {ps:List MemPlace},(∀t∈ts,T t)→DataW.TrodAll enc P W 0 (fun _=>true) true ts vs ds ps→(∀p∈ps,W.sameAt W' p)→(∀p∈ps,sp' p.block=true)→DataW.TrodAll enc P W' 0 sp' true ts vs ds ps
 | [],[],[],_,_,h,_,_=>h
 | t :: _,_ :: _,_ :: _,_,hT,⟨p,q,⟨n,h1⟩,h2,e⟩,hs,hp=>⟨p,q,⟨n,DataW.trod_stays K hz (fun h=>by cases h) (hT t (by simp)) h1 (fun x hx=>hs x (by rw[e];exact List.mem_append_left _ hx)) (fun x hx=>hp x (by rw[e];exact List.mem_append_left _ hx))⟩,
   Zh2 K hz (fun t ht=>hT t (by simp[ht])) h2 (fun x hx=>hs x (by rw[e];exact List.mem_append_right _ hx)) (fun x hx=>hp x (by rw[e];exact List.mem_append_right _ hx)),e⟩
theorem Zn3 {f:Func} {s:ChangeSpec} {apart fresh handsOn again:Bool} {args:Array Value} {v:Value} {ds gs:List (DataW H)} {before pa pv:List MemPlace}
  (hW:DataW.Whole enc P f.params.toList s.vars apart W args.toList ds gs before)
  (hres:∀(b:Nat) (sp:Nat→Bool) (hd:Bool),DataW.TrodAll enc P W' b sp hd f.resultTypes.toList (v.resultList f.resultTypes.size) (s.fn H (ds++gs)).results [])
  (hargs:∀sp:Nat→Bool,(∀p∈before,sp p.block=true)→DataW.TrodAll enc P W' 0 sp true f.params.toList args.toList (s.fn H (ds++gs)).args pa)
  (hvars:∀sp:Nat→Bool,(∀p∈before,sp p.block=true)→DataW.TrodVars enc P W' sp s.vars (s.fn H (ds++gs)).vars pv)
  (hps:before=pa++pv) (hk:W.keptBut W' (·∈before)) (hfz:∀a:Addr,a.block<W.heap.size→W'.frozen? a=W.frozen? a)
  (hok:∀(j:Nat) (t:TypeId) (r:Value),f.resultTypes[j]? = some t→(v.resultList f.resultTypes.size)[j]? = some r→Value.okWide P W' .any 0 t r):
  s.post enc P f apart fresh handsOn again W args v W':=by
 have hlt:=fun p hp=>hW.lt p hp
 have hold:∀p∈before,(fun b=>decide (b<W.heap.size)) p.block=true:=fun p hp=>by simpa using hW.lt p hp
 refine⟨ds,gs,before,[],pa,pv,hW,hres _ _ _,hargs _ hold,hvars _ hold,World.keptBut_mono (fun p hp=>⟨hp,?_⟩) hk,fun _=>?_⟩
 ·rw[hps,List.mem_append] at hp
  exact Or.inr hp
 ·obtain⟨_,_,_,_,_,hz,hn⟩:=hW
  refine⟨hok,_,_,([]++pa)++pv,⟨[]++pa,pv,trodAll_append (hargs _ (fun _ _=>rfl)) (hres _ _ _),hvars _ (fun _ _=>rfl),rfl,?_,?_⟩,?_⟩
  ·intro b off hp
   have hp':MemPlace.cell b off∈before:=by rw[hps];simpa using hp
   rw[hfz ⟨b,off,none⟩ (hlt _ hp')]
   exact hz b off hp'
  ·intro ha
   have:=hn ha
   rw[hps] at this
   simpa using this
  ·intro p hp _
   rw[hps]
   simpa using hp
theorem ZmS (hT:ZB P tab) {R:List TypeId} (hR:readB P tab R=true) (hl:laidOutB P=true) (hm:mapsRowed P=true) (hz:((List.range P.types.size).all fun t=>match P.underlying t with | some (.slice e)=>decide (0<P.cellsOf e) | _=>true)=true)
  {f:FuncId} {fn:Func} {s:ChangeSpec} {apart fresh handsOn again:Bool} (hvars:s.vars=[]) (hpar:(fn.params.toList.all fun t=>R.contains t&&decide (t<P.types.size))=true)
  {tb:TypeId} (hres:fn.resultTypes = #[tb]) (htb:P.underlying tb=some .bool) (hsp:∀(ds:List (DataW H)),ds.length=fn.params.size→s.fn H ds={ results:=[.lit (.bool true)],args:=ds })
  (hS:∀xs,WtAll tab fn.params.toList xs→SumOk P tab f xs (.bool true,[]))
  (args:Array Value) (ds gs:List (DataW H)) (before:List MemPlace)
  (hval:∀(j:Nat) t v,fn.params[j]? = some t→args[j]? = some v→Value.okWide P W .any 0 t v)
  (hW:DataW.Whole enc P fn.params.toList s.vars apart W args.toList ds gs before):
  Calls P f args W fun e W'=>∃v,e = .returned v∧s.post enc P fn apart fresh handsOn again W args v W':=by
 have hpar':∀t∈fn.params.toList,t∈R∧t<P.types.size:=fun t ht=>by
  have:=List.all_eq_true.1 hpar t ht
  simpa using this
 have hW':=hW
 obtain⟨p,q,hA,hV,hb,hfz,hnd⟩:=hW'
 rw[hvars] at hV
 obtain⟨rfl,rfl⟩:=trodVars_none hV
 have hA':DataW.TrodAll enc P W 0 (fun _=>true) true fn.params.toList args.toList ds p:=hA
 obtain⟨xs,hxs,hrq⟩:=ZlM hT hR (fun t ht=>(hpar' t ht).1) (fun j t v h1 h2=>hval j t v (by simpa using h1) (by simpa using h2)) hA'
 have hlen:ds.length=fn.params.size:=by
  have:∀{ts:List TypeId} {vs:List Value} {ds:List (DataW H)} {ps:List MemPlace},DataW.TrodAll enc P W 0 (fun _=>true) true ts vs ds ps→ds.length=ts.length:=by
   intro ts
   induction ts with
   | nil=>intro vs ds ps h;obtain⟨rfl,rfl,rfl⟩:=trodAll_nil h;rfl
   | cons t ts ih=>
    intro vs ds ps h
    obtain⟨v,vs1,d,ds1,a,b,rfl,rfl,rfl,h1,h2⟩:=trodAll_cons h
    simp[ih h2]
  simpa using this hA'
 have hcall:=hS xs hxs W (·< W.heap.size) args.toList [] [] hrq (by simp) (fun g hg=>⟨hg,by simp⟩) (by simp)
 refine Calls.mono hcall ?_
 rintro e W' ⟨val,rfl,rt,rn,ot,on,r1,r2,h1,h2,h3,h4,hk⟩
 have hval':val = .bool true:=by
  cases r1 with | one r1=>cases r1 with | one r1=>cases r1 with | tree r1=>cases r1;rfl
 subst hval'
 refine⟨_,rfl,?_⟩
 have hlt:∀x∈before,x.block<W.heap.size:=fun x hx=>hW.lt x hx
 refine Zn3 (pa:=before) (pv:=[]) hW (fun b sp hd=>?_) (fun sp hsp'=>?_) (fun sp _=>?_) (by simp) (kept_of hk _) (fun a ha=>ZpL hk ha) (fun j t r hj hr=>?_)
 ·rw[List.append_nil,hsp ds hlen,hres]
  refine⟨[],[],⟨1,?_⟩,rfl,rfl⟩
  show DataW.trod enc P W' b sp hd 1 tb [.bool true]=_
  unfold DataW.trod
  rw[htb]
 ·rw[List.append_nil,hsp ds hlen]
  rw[hb,List.append_nil] at hsp' hlt ⊢
  exact Zh2 (kids_rows hl hm) (fun {t e} h1 h2=>slices_full_of P hz t e h1 h2) (fun t ht=>(hpar' t ht).2) hA' (fun x hx=>same_of hk (hlt x hx)) hsp'
 ·rw[List.append_nil,hsp ds hlen,hvars]
  exact rfl
 ·rw[hres] at hj hr
  have hj0:j=0∧t=tb:=by
   cases j with
   | zero=>simpa using hj.symm
   | succ j=>simp at hj
  obtain⟨rfl,rfl⟩:=hj0
  have:r = .bool true:=by
   simpa [Value.resultList] using hr.symm
  subst this
  simp[Value.okWide,htb,Cell.okWide,Cell.ok]
end
end Go.Eng
namespace Go.Eng
section
variable {tab:Tab} {T:TypeId} {x:V}
theorem WtT.cell (h:WtT tab T x) (j:Nat) {k:Ck} (hk:((tab T).bind fun ty=>ty.kinds[j]?)=some k):Wt tab k (x.cell j):=by
 obtain⟨ty,h1,h2,h3⟩:=h
 rw[h1,Option.bind_some] at hk
 have hj:=(List.getElem?_eq_some_iff.1 hk).1
 have:=h3 j hj
 rwa [show ty.kinds.getD j .other=k from by simp[List.getD,hk]] at this
theorem WtT.eta (h:WtT tab T x) {ty:Ty} (ht:tab T=some ty):x=Eng.mk ty.agg (Zau ty.kinds x 0):=by
 obtain⟨ty',h1,h2,h3⟩:=h
 obtain rfl:=Option.some.inj (ht.symm.trans h1)
 rw[Zfi h2,mk_cells h2]
theorem wt_u8 {v:V} (h:Wt tab (.int .u8) v):0≤v.I∧v.I≤255:=by
 cases h with | int k n h=>
 simp[Lit.wf,IntKind.min,IntKind.max,IntKind.signed,IntKind.bits] at h
 exact h
theorem wt_sl {v:V} {e:TypeId} (h:Wt tab (.sl e) v) {w:V→Prop} (hw:∀y,WtT tab e y→w y):LW w v.L:=by
 cases h with | sl _ ty l h1 h2 h3 h4=>
 refine⟨h2,fun y hy=>hw y ?_⟩
 have hy:y∈l:=hy
 obtain⟨i,hi,rfl⟩:=List.getElem_of_mem hy
 have e1:l.getD i .dead=l[i]:=by simp[List.getD,hi]
 exact⟨ty,h1,by rw[←e1];exact h3 i hi,fun j hj=>by rw[←e1];exact h4 i j hi hj⟩
theorem WtAll.one {t:TypeId} {xs:List V} (h:WtAll tab [t] xs):∃a,xs=[a]∧WtT tab t a:=by
 cases h with | cons h1 h2=>cases h2;exact⟨_,rfl,h1⟩
end
end Go.Eng
namespace Go.Eng
variable {P:Program}
theorem ZcZ (w:World) (dT sT ty elem:TypeId) (sz:Nat) (g o dLen dCap:Nat) (a:Addr) (sLen sCap:Nat) (cur:Array Value) (t:TypeId) (cs:List Value)
  (hu:P.underlying dT=some (.slice elem)) (hs:(P.info? elem).map (·.size)=some sz)
  (hg:w.heap[g]? = some (.cells cur t (0,0))) (hn:cs.length=Nat.min sLen dLen*sz)
  (hsrc:∀j v,cs[j]? = some v→w.cell? (a.add j)=some v) (hfit:o+cs.length≤cur.size) (h1:∀v∈cs,v.oneCell'=true):
  (Builtin.copy_ #[dT,sT] ty #[.slice (some ⟨g,o,none⟩) dLen dCap, .slice (some a) sLen sCap]).run P w =
   .ok (goInt (Nat.min sLen dLen)) (w.setRow g (cur.toList.take o++cs++cur.toList.drop (o+cs.length)).toArray):=by
 have hl:=run_loadCells_list (P:=P) w a cs hsrc
 have hst:=run_storeCells_at P g o t cs 0 cur w hg (by simpa using hfit) h1
 cases hq:P.info? elem with
 | none=>simp[hq] at hs
 | some i=>
  have hi:i.size=sz:=by simpa [hq] using hs
  simp[Builtin.copy_,run_underlying hu,Builtin.lenOf,Builtin.firstCells,sizeOf,typeInfo,hq,hi,←hn,hl,hst]
theorem Zfn (w:World) (t e ty:TypeId) (z:Value) (sz:Nat) (hu:P.underlying t=some (.slice e)) (hv:∀w,(zeroValue e).run P w = .ok z w) (hz:z.cells.size=sz) (h1:∀v∈z.cells,v.oneCell'=true) (hsz:0<sz)
  (g o n:Nat) (hn:0<n) (cur:Array Value) (T:TypeId) (hg:w.heap[g]? = some (.cells cur T (0,0))) (hfit:o+n*sz≤cur.size):
  ∃tl:List Value,tl.length=n*sz∧∀c,(Builtin.clear_ #[t] ty #[.slice (some ⟨g,o,none⟩) n c]).run P w = .ok (.tuple #[]) (w.setRow g (cur.toList.take o++tl++cur.toList.drop (o+tl.length)).toArray):=by
 refine⟨(Builtin.zeroCells z.cells n).toList,by rw[Array.length_toList,size_zeroCells,hz],fun c=>?_⟩
 have hl:(Builtin.zeroCells z.cells n).toList.length=n*sz:=by rw[Array.length_toList,size_zeroCells,hz]
 have hst:=run_storeCells_at P g o T (Builtin.zeroCells z.cells n).toList 0 cur w hg (by rw[hl];simpa using hfit) (fun v hv'=>by
  simp only[Builtin.zeroCells,Array.toList_map,List.mem_map] at hv'
  obtain⟨k,hk,rfl⟩:=hv'
  have hlt:k % z.cells.size<z.cells.size:=Nat.mod_lt _ (by omega)
  rw[getElem!_pos z.cells _ hlt]
  exact h1 _ (Array.getElem_mem hlt))
 simp only[Nat.add_zero] at hst
 obtain⟨m,rfl⟩:∃m,n=m+1:=⟨n-1,by omega⟩
 simp[Builtin.clear_,run_underlying hu,hv,hst]
section
variable {w:World} {ops:Array Oper} {rest:List Oper} {o:Oper} {a:Act} {Q:Exit→Act→World→Prop}
theorem Zew (hgd:o.guard=none) (d s:Operand) (t t':TypeId)
  (ho:o.op = .call { callee:=.builtin .copy,args:=#[d,s],argTypes:=#[t,t'] }) (v u:Value) (hd:a.eval d=v) (hs:a.eval s=u) {v':Value} {w':World}
  (hr:(Builtin.copy_ #[t,t'] o.type #[v,u]).run P w = .ok v' w') (h:wpList P ops Q rest (a.put o.dst v') w'):wpList P ops Q (o :: rest) a w:=
 wpList_plain hgd fun _ hK=>by
  unfold Oper.wp execOp
  simp only[ho,resolve,invoke,builtin,Sem.run_bind,Sem.run_pure,Result.andThen_ok,List.map_toArray,List.map_cons,List.map_nil,hd,hs,hr]
  exact hK _ _ h
theorem ZaE (hgd:o.guard=none) (d:Operand) (t:TypeId)
  (ho:o.op = .call { callee:=.builtin .clear,args:=#[d],argTypes:=#[t] }) (v:Value) (hd:a.eval d=v) {v':Value} {w':World}
  (hr:(Builtin.clear_ #[t] o.type #[v]).run P w = .ok v' w') (h:wpList P ops Q rest (a.put o.dst v') w'):wpList P ops Q (o :: rest) a w:=
 wpList_plain hgd fun _ hK=>by
  unfold Oper.wp execOp
  simp only[ho,resolve,invoke,builtin,Sem.run_bind,Sem.run_pure,Result.andThen_ok,List.map_toArray,List.map_cons,List.map_nil,hd,hr]
  exact hK _ _ h
theorem Zfo {K:Act→World→Prop} {E:Prop}
  (hg:o.guard=none) (d x:Operand) (dT sT:TypeId) (hop:o.op=Op.call { callee:=Callee.builtin Builtin.copy,args:=#[d,x],argTypes:=#[dT,sT] })
  (v u:Value) (hd:a.eval d=v) (hx:a.eval x=u) {v':Value} {w':World} (hr:(Builtin.copy_ #[dT,sT] o.type #[v,u]).run P w = .ok v' w') (hK:K (a.put o.dst v') w'):
  if Region.wanted o (yielded ops a.tmps)=true then Oper.wp P o a w K Q else E:=by
 have hw:Region.wanted o (yielded ops a.tmps)=true:=by simp[Region.wanted,hg]
 rw[if_pos hw]
 unfold Oper.wp
 simp[execOp,hop,resolve,invoke,builtin,hd,hx,hr,Result.andThen]
 exact hK
theorem Zex {K:Act→World→Prop} {E:Prop}
  (hg:o.guard=none) (d x:Operand) (dT sT:TypeId) (hop:o.op=Op.call { callee:=Callee.builtin Builtin.append,args:=#[d,x],argTypes:=#[dT,sT] })
  (v u:Value) (hd:a.eval d=v) (hx:a.eval x=u) {v':Value} {w':World} (hr:(Builtin.append_ #[dT,sT] o.type #[v,u]).run P w = .ok v' w') (hK:K (a.put o.dst v') w'):
  if Region.wanted o (yielded ops a.tmps)=true then Oper.wp P o a w K Q else E:=by
 have hw:Region.wanted o (yielded ops a.tmps)=true:=by simp[Region.wanted,hg]
 rw[if_pos hw]
 unfold Oper.wp
 simp[execOp,hop,resolve,invoke,builtin,hd,hx,hr,Result.andThen]
 exact hK
end
def ZdU (l:List Value):Prop:=∀v∈l,v.oneCell'=true
def ZhL (P:Program) (f:FuncId) (T:TypeId) (sz:Nat):Prop:=
 ∀(g n cap i j:Nat) (cur:Array Value) (w:World),w.heap[g]? = some (.cells cur T (0,0))→cur.size=cap*sz→n≤cap→cap≤maxLen→ZdU (cur.toList.take (n*sz))→i<j→j≤n→
  Calls P f #[.slice (some ⟨g,0,none⟩) n cap, .int .i64 i, .int .i64 j] w fun e w'=>e = .returned (.slice (some ⟨g,0,none⟩) (n-(j-i)) cap)∧
   ∃cur':Array Value,w'.heap[g]? = some (.cells cur' T (0,0))∧cur'.size=cap*sz∧cur'.toList.take ((n-(j-i))*sz)=(cur.toList.take (n*sz)).take (i*sz)++(cur.toList.take (n*sz)).drop (j*sz)∧KeptBut [g] w w'
def Zfd (P:Program) (f:FuncId):Prop:=
 ∀(a:Option Addr) (n cap i:Nat) (w:World),i≤n→n≤cap→cap≤maxLen→Calls P f #[.slice a n cap, .int .i64 i, .int .i64 i] w fun e w'=>e = .returned (.slice a n cap)∧KeptBut [] w w'
end Go.Eng
namespace Go.Eng
variable {P:Program}
theorem Zba {w:World} {g o m:Nat} {cur:Array Value} {T:TypeId} (hg:w.heap[g]? = some (.cells cur T (0,0))) (h:o+m≤cur.size):
  ∀j v,((cur.toList.drop o).take m)[j]? = some v→w.cell? ((⟨g,o,none⟩:Addr).add j)=some v:=by
 intro j v hv
 rw[List.getElem?_take] at hv
 split at hv
 ·rename_i hj
  rw[List.getElem?_drop] at hv
  rw[Addr.add_none]
  have hlt:=(List.getElem?_eq_some_iff.1 hv).1
  have:o+j<cur.size:=by simpa using hlt
  have e:=(List.getElem?_eq_some_iff.1 hv).2
  simp[World.cell?,hg,this]
  simpa using e
 ·cases hv
def ZhM (P:Program) (f:FuncId) (T:TypeId) (sz bytes:Nat):Prop:=
 ∀(w:World) (v v2:Value) (n i:Nat) (xs ys:List Value),RowIs w T sz n v xs→RowIs w T sz 1 v2 ys→(∀g∈Zr v,g∉Zr v2)→ZdU xs→ZdU ys→i≤n→(n+1)*bytes≤140737488355328→
  n+1≤9223372036854775807→Calls P f #[v, .int .i64 i,v2] w fun e w'=>∃v',e = .returned v'∧RowIs w' T sz (n+1) v' (xs.take (i*sz)++ys++xs.drop (i*sz))∧KeptBut (Zr v) w w'∧∀g∈Zr v',g∈Zr v∨w.heap.size≤g
end Go.Eng
namespace Go.Eng
theorem ZmT {α:Type} {cur y tl c1 c2:List α} {a s:Nat} (ha:a+s≤cur.length) (hy:y.length=s) (h1:c1=cur.take (a+s)++tl++cur.drop (a+s+tl.length)) (h2:c2=c1.take a++y++c1.drop (a+s)):
  c2.take (a+s+tl.length)=cur.take a++y++tl:=by
 have e1:c1.take a=cur.take a:=by
  rw[h1,List.append_assoc,List.take_append_of_le_length (by simp;omega),List.take_take,Nat.min_eq_left (by omega)]
 have e2:c1.drop (a+s)=tl++cur.drop (a+s+tl.length):=by
  rw[h1,List.append_assoc];exact List.drop_left' (by simp;omega)
 rw[h2,e1,e2,←List.append_assoc]
 exact List.take_left' (by simp;omega)
theorem ZkP {α:Type} (l:List α) (a b:Nat):(l.drop a).take (b-a)=(l.take b).drop a:=by rw[List.drop_take]
end Go.Eng
namespace Go.Eng
theorem KeptBut.fresh {w w':World} {F:List Nat} (h:KeptBut F w w') (hF:∀g∈F,w.heap.size≤g):KeptBut [] w w':=
 ⟨h.os,h.tape,h.output,h.size,fun g hg _=>h.block g hg fun hm=>by have:=hF g hm;omega⟩
theorem ZlN {α:Type} {row y tl c2 c3:List α} {a s:Nat} (ha:a+s+tl.length≤row.length) (hy:y.length=s) (h2:c2=row.take a++y++row.drop (a+s)) (h3:c3=c2.take (a+s)++tl++c2.drop (a+s+tl.length)):
  c3.take (a+s+tl.length)=row.take a++y++tl:=by
 have e1:c2.take (a+s)=row.take a++y:=by rw[h2];exact List.take_left' (by simp;omega)
 rw[h3,e1]
 exact List.take_left' (by simp;omega)
end Go.Eng
namespace Go.Eng
variable {P:Program}
def InsRoom (P:Program) (f:FuncId) (T:TypeId) (sz:Nat):Prop:=
 ∀(w:World) (g n cap i h caph:Nat) (cur curh:Array Value),w.heap[g]? = some (.cells cur T (0,0))→cur.size=cap*sz→cap≤maxLen→ZdU (cur.toList.take (n*sz))→
  w.heap[h]? = some (.cells curh T (0,0))→curh.size=caph*sz→1≤caph→h≠g→ZdU (curh.toList.take sz)→i<n→n+1≤cap→
  Calls P f #[.slice (some ⟨g,0,none⟩) n cap, .int .i64 i, .slice (some ⟨h,0,none⟩) 1 caph] w fun e w'=>e = .returned (.slice (some ⟨g,0,none⟩) (n+1) cap)∧
   ∃cur':Array Value,w'.heap[g]? = some (.cells cur' T (0,0))∧cur'.size=cap*sz∧cur'.toList.take ((n+1)*sz)=(cur.toList.take (n*sz)).take (i*sz)++curh.toList.take sz++(cur.toList.take (n*sz)).drop (i*sz)∧KeptBut [g] w w'
def InsGrow (P:Program) (f:FuncId) (T:TypeId) (sz bytes:Nat):Prop:=
 ∀(w:World) (g n cap i h caph:Nat) (cur curh:Array Value),w.heap[g]? = some (.cells cur T (0,0))→cur.size=cap*sz→cap≤maxLen→ZdU (cur.toList.take (n*sz))→
  w.heap[h]? = some (.cells curh T (0,0))→curh.size=caph*sz→1≤caph→ZdU (curh.toList.take sz)→i<n→n≤cap→cap<n+1→(n+1)*bytes≤140737488355328→
  Calls P f #[.slice (some ⟨g,0,none⟩) n cap, .int .i64 i, .slice (some ⟨h,0,none⟩) 1 caph] w fun e w'=>∃cap',e = .returned (.slice (some ⟨w.heap.size,0,none⟩) (n+1) cap')∧n+1≤cap'∧cap'≤maxLen∧
   ∃cur':Array Value,w'.heap[w.heap.size]? = some (.cells cur' T (0,0))∧cur'.size=cap'*sz∧cur'.toList.take ((n+1)*sz)=(cur.toList.take (n*sz)).take (i*sz)++curh.toList.take sz++(cur.toList.take (n*sz)).drop (i*sz)∧KeptBut [] w w'
def ZmU (P:Program) (f:FuncId) (T:TypeId) (sz bytes:Nat):Prop:=
 ∀(w:World) (v v2:Value) (n:Nat) (xs ys:List Value),RowIs w T sz n v xs→RowIs w T sz 1 v2 ys→ZdU ys→(n+1)*bytes≤140737488355328→n+1≤9223372036854775807→
  Calls P f #[v, .int .i64 n,v2] w fun e w'=>∃v',e = .returned v'∧RowIs w' T sz (n+1) v' (xs++ys)∧KeptBut (Zr v) w w'∧∀g∈Zr v',g∈Zr v∨g=w.heap.size
theorem ZhN {w:World} {T:TypeId} {sz n:Nat} {g cap:Nat} {cur:Array Value} {xs:List Value} (hc:0<cap) (hg:w.heap[g]? = some (.cells cur T (0,0))) (hn:n≤cap) (hm:cap≤maxLen) (hs:cur.size=cap*sz) (hx:cur.toList.take (n*sz)=xs):
  RowIs w T sz n (.slice (some ⟨g,0,none⟩) n cap) xs:=
 ⟨by rw[←hx,List.length_take,Array.length_toList,hs];exact Nat.min_eq_left (Nat.mul_le_mul_right _ hn), .inr ⟨g,cap,cur,rfl,hc, .of hg,hn,hm,hs,hx⟩⟩
theorem Zc0 (g n cap:Nat) (hc:0<cap):Zr (.slice (some ⟨g,0,none⟩) n cap)=[g]:=by
 obtain⟨c,rfl⟩:∃c,cap=c+1:=⟨cap-1,by omega⟩
 rfl
theorem ins_ok {f:FuncId} {T:TypeId} {sz bytes:Nat} (hR:InsRoom P f T sz) (hG:InsGrow P f T sz bytes) (hE:ZmU P f T sz bytes) (hne:Nat.beq T ZbJ=false:=by rfl):ZhM P f T sz bytes:=by
 have hmk:T≠ZbJ:=fun e=>by rw[e,Nat.beq_refl] at hne;cases hne
 intro w v v2 n i xs ys hr hr2 hd h1 h1h hi hbig h63
 by_cases hin:i=n
 ·subst hin
  refine(hE w v v2 i xs ys hr hr2 h1h hbig h63).mono ?_
  rintro e w' ⟨v',rfl,k1,k2,k3⟩
  refine⟨v',rfl,?_,k2,fun g hg=>?_⟩
  ·rw[List.take_of_length_le (by rw[hr.1];exact Nat.le_refl _),List.drop_of_length_le (by rw[hr.1];exact Nat.le_refl _),List.append_nil];exact k1
  ·rcases k3 g hg with h | h
   ·exact .inl h
   ·exact .inr (by omega)
 ·have hlt:i<n:=by omega
  rcases hr.2 with⟨a,rfl,h0⟩ | ⟨g,cap,cur,rfl,hc,hg,hn,hm,hs,hx⟩
  ·omega
  rcases hr2.2 with⟨a,rfl,h0⟩ | ⟨h,caph,curh,rfl,hch,hh,hn2,hm2,hs2,hx2⟩
  ·omega
  have hne:h≠g:=fun e=>hd g (by rw[Zc0 _ _ _ hc];simp) (by rw[Zc0 _ _ _ hch,e];simp)
  rw[Nat.one_mul] at hx2
  subst hx;subst hx2
  have hg:=hg.zero hmk
  have hh:=hh.zero hmk
  by_cases hroom:n+1≤cap
  ·refine(hR w g n cap i h caph cur curh hg hs hm h1 hh hs2 hn2 hne h1h hlt hroom).mono ?_
   rintro e w' ⟨rfl,cur',k1,k2,k3,k4⟩
   refine⟨_,rfl,ZhN hc k1 hroom hm k2 k3,by rw[Zc0 _ _ _ hc];exact k4,fun g' hg'=>.inl ?_⟩
   rw[Zc0 _ _ _ hc] at hg' ⊢;exact hg'
  ·refine(hG w g n cap i h caph cur curh hg hs hm h1 hh hs2 hn2 h1h hlt hn (by omega) hbig).mono ?_
   rintro e w' ⟨cap',rfl,k0,k0',cur',k1,k2,k3,k4⟩
   refine⟨_,rfl,ZhN (by omega) k1 k0 k0' k2 k3,k4.mono (by simp),fun g' hg'=>.inr ?_⟩
   rw[Zc0 _ _ _ (by omega)] at hg';simp at hg';omega
section
variable {tab:Tab}
structure Els (tab:Tab) (w:World) (ok:Nat→Prop) (ty:Ty) (own:Bool) (l:List V) (xs:List Value) (F:Nat→Nat→List Nat):Prop where
 len:xs.length=l.length*ty.kinds.length
 shape:∀i,i<l.length→ZbS ty (l.getD i .dead)
 yes:own=true→∀i j,i<l.length→j<ty.kinds.length→Ro tab w ((l.getD i .dead).cell j) (xs.getD (i*ty.kinds.length+j) undef) (F i j)
 no:own=false→(∀i j,F i j=[])∧∀i j,i<l.length→j<ty.kinds.length→Rp tab w ok ((l.getD i .dead).cell j) (xs.getD (i*ty.kinds.length+j) undef)
theorem RowT.els {w:World} {ok:Nat→Prop} {T:TypeId} {own:Bool} {l:List V} {v:Value} {nest:List Nat} (h:RowT tab w ok T own l v nest) {ty:Ty} (ht:tab T=some ty):
  ∃xs F,RowIs w T ty.kinds.length l.length v xs∧Els tab w ok ty own l xs F∧nest=ZD l.length ty.kinds.length F:=by
 obtain⟨ty',xs,ht',hr,hs,he⟩:=h
 obtain rfl:=Option.some.inj (ht.symm.trans ht')
 rcases he with⟨ho,F,hn,he⟩ | ⟨ho,hn,he⟩
 ·exact⟨xs,F,hr,⟨hr.1,hs,fun _=>he,fun h=>by rw[ho] at h;cases h⟩,hn⟩
 ·refine⟨xs,fun _ _=>[],hr,⟨hr.1,hs,fun h=>by rw[ho] at h;(cases h),fun _=>⟨fun _ _=>rfl,he⟩⟩,?_⟩
  rw[hn];simp[ZD]
theorem Els.row {w:World} {ok:Nat→Prop} {T:TypeId} {own:Bool} {l:List V} {v:Value} {ty:Ty} (ht:tab T=some ty) {xs:List Value} {F:Nat→Nat→List Nat} (hr:RowIs w T ty.kinds.length l.length v xs) (h:Els tab w ok ty own l xs F):
  RowT tab w ok T own l v (ZD l.length ty.kinds.length F):=by
 refine⟨ty,xs,ht,hr,h.shape,?_⟩
 cases ho:own with
 | true=>exact .inl ⟨rfl,F,rfl,h.yes ho⟩
 | false=>
  obtain⟨h1,h2⟩:=h.no ho
  refine .inr ⟨rfl,?_,h2⟩
  simp[ZD,h1]
theorem Els.keep {w w':World} {ok ok':Nat→Prop} {own:Bool} {l:List V} {ty:Ty} {xs:List Value} {F:Nat→Nat→List Nat} (h:Els tab w ok ty own l xs F) (hok:∀g,ok g→ok' g) (hw:∀g,ok g→w'.heap[g]? = w.heap[g]?)
  (hF:∀i j,i<l.length→j<ty.kinds.length→∀g∈F i j,w'.heap[g]? = w.heap[g]?):Els tab w' ok' ty own l xs F:=
 ⟨h.len,h.shape,fun ho i j hi hj=>(h.yes ho i j hi hj).keep (hF i j hi hj),fun ho=>⟨(h.no ho).1,fun i j hi hj=>((h.no ho).2 i j hi hj).keep hok hw⟩⟩
theorem Els.one {w:World} {ok:Nat→Prop} {own:Bool} {l:List V} {ty:Ty} {xs:List Value} {F:Nat→Nat→List Nat} (h:Els tab w ok ty own l xs F):ZdU xs:=by
 intro v hv
 obtain⟨k,hk,rfl⟩:=List.getElem_of_mem hv
 rw[h.len] at hk
 obtain⟨h1,h2,h3⟩:=Zht hk
 have e:xs.getD (k / ty.kinds.length*ty.kinds.length+k % ty.kinds.length) undef=xs[k]:=by rw[h3];simp[List.getD,h.len,hk]
 rw[←e]
 cases ho:own with
 | true=>exact(h.yes ho _ _ h1 h2).oneCell
 | false=>exact((h.no ho).2 _ _ h1 h2).oneCell _ ((h.shape _ h1).2.2.2 _ h2)
theorem Els.pick {w:World} {ok:Nat→Prop} {own:Bool} {l:List V} {ty:Ty} {xs:List Value} {F:Nat→Nat→List Nat} (h:Els tab w ok ty own l xs F) (φ:Nat→Nat) {l':List V} {xs':List Value}
  (hlen:xs'.length=l'.length*ty.kinds.length) (hφ:∀k,k<l'.length→φ k<l.length) (hl:∀k,k<l'.length→l'.getD k .dead=l.getD (φ k) .dead)
  (hx:∀k c,k<l'.length→c<ty.kinds.length→xs'.getD (k*ty.kinds.length+c) undef=xs.getD (φ k*ty.kinds.length+c) undef):Els tab w ok ty own l' xs' (fun k c=>F (φ k) c):=
 ⟨hlen,fun k hk=>by rw[hl k hk];exact h.shape _ (hφ k hk),fun ho k c hk hc=>by rw[hl k hk,hx k c hk hc];exact h.yes ho _ _ (hφ k hk) hc,
  fun ho=>⟨fun k c=>(h.no ho).1 _ _,fun k c hk hc=>by rw[hl k hk,hx k c hk hc];exact(h.no ho).2 _ _ (hφ k hk) hc⟩⟩
theorem Els.append {w:World} {ok:Nat→Prop} {own:Bool} {l l':List V} {ty:Ty} {xs xs':List Value} {F F':Nat→Nat→List Nat} (h:Els tab w ok ty own l xs F) (h':Els tab w ok ty own l' xs' F'):
  Els tab w ok ty own (l++l') (xs++xs') (fun k c=>if k<l.length then F k c else F' (k-l.length) c):=by
 have hg1:∀k,k<l.length→(l++l').getD k .dead=l.getD k .dead:=fun k hk=>by simp only[List.getD,List.getElem?_append_left hk]
 have hg2:∀k,¬k<l.length→(l++l').getD k .dead=l'.getD (k-l.length) .dead:=fun k hk=>by simp[List.getD,List.getElem?_append_right (Nat.le_of_not_lt hk)]
 have hx1:∀k c,k<l.length→c<ty.kinds.length→(xs++xs').getD (k*ty.kinds.length+c) undef=xs.getD (k*ty.kinds.length+c) undef:=fun k c hk hc=>by
  have:k*ty.kinds.length+c<xs.length:=by rw[h.len];exact ZbK hk hc
  simp only[List.getD,List.getElem?_append_left this]
 have hx2:∀k c,¬k<l.length→c<ty.kinds.length→(xs++xs').getD (k*ty.kinds.length+c) undef=xs'.getD ((k-l.length)*ty.kinds.length+c) undef:=fun k c hk hc=>by
  have e:l.length*ty.kinds.length≤k*ty.kinds.length:=Nat.mul_le_mul_right _ (Nat.le_of_not_lt hk)
  have:xs.length≤k*ty.kinds.length+c:=by rw[h.len];omega
  simp only[List.getD,List.getElem?_append_right this]
  rw[h.len,Nat.sub_mul,show k*ty.kinds.length+c-l.length*ty.kinds.length=k*ty.kinds.length-l.length*ty.kinds.length+c from by omega]
 refine⟨by simp[h.len,h'.len,Nat.add_mul],fun k hk=>?_,fun ho k c hk hc=>?_,fun ho=>⟨fun k c=>?_,fun k c hk hc=>?_⟩⟩
 ·by_cases hk':k<l.length
  ·rw[hg1 k hk'];exact h.shape k hk'
  ·rw[hg2 k hk'];exact h'.shape _ (by simp at hk;omega)
 ·by_cases hk':k<l.length
  ·rw[hg1 k hk',hx1 k c hk' hc,if_pos hk'];exact h.yes ho k c hk' hc
  ·rw[hg2 k hk',hx2 k c hk' hc,if_neg hk'];exact h'.yes ho _ c (by simp at hk;omega) hc
 ·split
  ·exact(h.no ho).1 _ _
  ·exact(h'.no ho).1 _ _
 ·by_cases hk':k<l.length
  ·rw[hg1 k hk',hx1 k c hk' hc];exact(h.no ho).2 k c hk' hc
  ·rw[hg2 k hk',hx2 k c hk' hc];exact(h'.no ho).2 _ c (by simp at hk;omega) hc
theorem ZkQ {α:Type} {l:List α} {n i:Nat} {d:α} (h:i<n):(l.take n).getD i d=l.getD i d:=by simp[List.getD,h]
theorem ZkR {α:Type} {l:List α} {n i:Nat} {d:α}:(l.drop n).getD i d=l.getD (n+i) d:=by simp[List.getD]
theorem Els.take {w:World} {ok:Nat→Prop} {own:Bool} {l:List V} {ty:Ty} {xs:List Value} {F:Nat→Nat→List Nat} (h:Els tab w ok ty own l xs F) {n:Nat} (hn:n≤l.length):Els tab w ok ty own (l.take n) (xs.take (n*ty.kinds.length)) F:=by
 refine h.pick id (by rw[List.length_take,List.length_take,h.len,Nat.min_eq_left hn,Nat.min_eq_left (Nat.mul_le_mul_right _ hn)]) (fun k hk=>by simp at hk;exact(by omega:k<l.length)) (fun k hk=>?_) fun k c hk hc=>?_
 ·exact ZkQ (by simp at hk;omega)
 ·exact ZkQ (ZbK (by simp at hk;omega) hc)
theorem Els.drop {w:World} {ok:Nat→Prop} {own:Bool} {l:List V} {ty:Ty} {xs:List Value} {F:Nat→Nat→List Nat} (h:Els tab w ok ty own l xs F) (n:Nat):Els tab w ok ty own (l.drop n) (xs.drop (n*ty.kinds.length)) (fun k c=>F (n+k) c):=by
 refine h.pick (fun k=>n+k) (by simp[h.len,Nat.sub_mul]) (fun k hk=>by simp at hk;omega) (fun k hk=>ZkR) fun k c hk hc=>?_
 rw[ZkR,Nat.add_mul,Nat.add_assoc]
def Zdd (l:List V) (i j:Int):Option (List V):=bif decide (0≤i)&&(decide (i≤j)&&(decide (j≤(l.length:Int))&&decide (l.length≤9223372036854775807))) then some (l.take i.toNat++l.drop j.toNat) else none
def Zcp (bytes:Nat) (l:List V) (i:Int) (x:List V):Option (List V):=bif decide (0≤i)&&(decide (i≤(l.length:Int))&&(decide (x.length=1)&&Zv (l.length+1) bytes)) then some (l.take i.toNat++x++l.drop i.toNat) else none
theorem ZpM {n m n' m':Nat} {F F':Nat→Nat→List Nat} (h:∀k c,k<n'→c<m'→∃k',k'<n∧∃c',c'<m∧F' k c=F k' c'):∀g∈ZD n' m' F',g∈ZD n m F:=fun g hg=>by
 obtain⟨k,hk,c,hc,hg⟩:=mem_flatF.1 hg
 obtain⟨k',hk',c',hc',e⟩:=h k c hk hc
 exact mem_flatF.2 ⟨k',hk',c',hc',e▸hg⟩
theorem Zo5 {n n' m:Nat} {F:Nat→Nat→List Nat} (φ:Nat→Nat) (hφ:∀k,k<n'→φ k<n) (hinj:∀k k',k<n'→k'<n'→φ k=φ k'→k=k') (h:(ZD n m F).Nodup):(ZD n' m fun k c=>F (φ k) c).Nodup:=by
 rw[nodup_flatF] at h ⊢
 refine⟨fun k c hk hc=>h.1 _ _ (hφ k hk) hc,fun k c k' c' hk hc hk' hc' hne=>h.2 _ _ _ _ (hφ k hk) hc (hφ k' hk') hc' ?_⟩
 rcases hne with hne | hne
 ·exact .inl fun e=>hne (hinj k k' hk hk' e)
 ·exact .inr hne
end
end Go.Eng
namespace Go.Eng
variable {P:Program} {tab:Tab}
theorem Zn4 (a:Option Addr) (n cap:Nat):Zr (.slice a n cap)=match a,cap with | some a,_+1=>[a.block] | _,_=>[]:=by
 cases a <;> cases cap <;> rfl
theorem ZjL {w w':World} {ok:Nat→Prop} {t n:List Nat} {v':Value} {own:Bool} {l:List V} {ty:Ty} {xs:List Value} {F:Nat→Nat→List Nat} (h:Els tab w ok ty own l xs F)
  (hF:∀g∈ZD l.length ty.kinds.length F,g∈n) (hnd:(t++n).Nodup) (hok:∀g,ok g→g<w.heap.size∧g∉t) (hlt:∀g∈t++n,g<w.heap.size) (hk:KeptBut t w w') (htop:∀g∈Zr v',g∈t∨w.heap.size≤g):
  Els tab w' (fun g=>(ok g∨g∈t++n∨w.heap.size≤g)∧g<w'.heap.size∧g∉([]++Zr v')) ty own l xs F:=by
 refine h.keep (fun g hg=>⟨.inl hg,Nat.lt_of_lt_of_le (hok g hg).1 hk.size,fun hm=>?_⟩) (fun g hg=>hk.block g (hok g hg).1 (hok g hg).2) fun i j hi hj g hg=>?_
 ·rcases htop g (by simpa using hm) with h1 | h1
  ·exact(hok g hg).2 h1
  ·have:=(hok g hg).1;omega
 ·have hgn:=hF g (mem_flatF.2 ⟨i,hi,j,hj,hg⟩)
  refine hk.block g (hlt g (List.mem_append_right _ hgn)) fun hm=>?_
  exact(List.nodup_append.1 hnd).2.2 g hm g hgn rfl
theorem ZjM {w w':World} {ok:Nat→Prop} {args:List V} {vals:List Value} {t n:List Nat} {T:TypeId} {own:Bool} {r:List V} {v':Value} {ty:Ty} {xs:List Value} {F:Nat→Nat→List Nat} {outs:List V} (ht:tab T=some ty)
  (hr:RowIs w' T ty.kinds.length r.length v' xs) (he:Els tab w' (fun g=>(ok g∨g∈t++n∨w.heap.size≤g)∧g<w'.heap.size∧g∉([]++Zr v')) ty own r xs F)
  (hO:∀R:V→Value→List Nat→List Nat→Prop,(∀v,R .dead v [] [])→OutL R (Zbs args vals) outs [] []) (hnd:(t++n).Nodup) (hlt:∀g∈t++n,g<w.heap.size)
  (hF:∀g∈ZD r.length ty.kinds.length F,g∈n) (hFn:(ZD r.length ty.kinds.length F).Nodup) (hk:KeptBut t w w') (htop:∀g∈Zr v',g∈t∨w.heap.size≤g):
  Zkl tab w ok args vals t n (.rr T own r,outs) v' w':=by
 have hn1:∀g∈ZD r.length ty.kinds.length F,g<w.heap.size∧g∉t:=fun g hg=>⟨hlt g (List.mem_append_right _ (hF g hg)),fun hm=>(List.nodup_append.1 hnd).2.2 g hm g (hF g hg) rfl⟩
 have hT:(Zr v').Nodup:=by
  cases v' with
  | slice a n c=>rw[Zn4];split <;> simp
  | _=>simp[Zr]
 refine⟨Zr v',ZD r.length ty.kinds.length F,[],[], .one (.one (.row (he.row ht hr))),hO _ fun v=>.one (.tree (.dead _)),?_,?_,?_,?_,hk⟩
 ·simp only[List.nil_append]
  rw[List.nodup_append]
  refine⟨hT,hFn,fun a ha b hb e=>?_⟩
  subst e
  rcases htop a ha with h | h
  ·exact(hn1 a hb).2 h
  ·have:=(hn1 a hb).1;omega
 ·simpa using htop
 ·intro g hg
  exact .inl (List.mem_append_right _ (hF g (by simpa using hg)))
 ·intro g hg
  simp only[List.nil_append,List.mem_append] at hg
  rcases hg with hg | hg
  ·exact hr.top_lt g hg
  ·exact Nat.lt_of_lt_of_le (hn1 g hg).1 hk.size
theorem ZmV {w:World} {ok:Nat→Prop} {k:IntKind} {m:Int} {v:Value} {t n:List Nat} (h:Rq2 tab w ok (.int k m) v t n):v = .int k m∧t=[]∧n=[]:=by
 cases h with | one h=>cases h with | tree h=>cases h;exact⟨rfl,rfl,rfl⟩
theorem ZkS {w:World} {ok:Nat→Prop} {T:TypeId} {own:Bool} {l:List V} {v:Value} {t n:List Nat} (h:Rq2 tab w ok (.rr T own l) v t n):RowT tab w ok T own l v n∧t=Zr v:=by
 cases h with | one h=>cases h with
  | tree h=>cases h
  | row h=>exact⟨h,rfl⟩
theorem RowIs.slice {w:World} {T:TypeId} {sz N:Nat} {v:Value} {xs:List Value} (h:RowIs w T sz N v xs):∃a cap,v = .slice a N cap∧N≤cap∧cap≤maxLen:=by
 rcases h.2 with⟨a,rfl,rfl⟩ | ⟨g,cap,cur,rfl,h1,h2,h3,h4,_⟩
 ·exact⟨a,0,rfl,Nat.le_refl _,by simp[maxLen]⟩
 ·exact⟨_,cap,rfl,h3,h4⟩
theorem Zox {f:FuncId} {T:TypeId} {ty:Ty} {own:Bool} {l r:List V} {i j:Int} (ht:tab T=some ty) (hD:ZhL P f T ty.kinds.length) (hS:Zfd P f) (hv:Zdd l i j=some r) (hne:T≠ZbJ):
  SumOk P tab f [.rr T own l, .int .i64 i, .int .i64 j] (.rr T own r,[.dead]):=by
 intro w ok vals t n hrq hnd hok hlt
 cases hrq with | @cons _ v t1 n1 _ vs1 ts1 ns1 hx hxs=>
 cases hxs with | @cons _ v2 t2 n2 _ vs2 ts2 ns2 hx2 hxs=>
 cases hxs with | @cons _ v3 t3 n3 _ vs3 ts3 ns3 hx3 hxs=>
 cases hxs
 obtain⟨rfl,rfl,rfl⟩:=ZmV hx2
 obtain⟨rfl,rfl,rfl⟩:=ZmV hx3
 obtain⟨hrow,rfl⟩:=ZkS hx
 simp only[List.append_nil] at hnd hok hlt ⊢
 unfold Zdd at hv
 rw[Bool.cond_eq_ite] at hv
 split at hv
 case isFalse=>cases hv
 rename_i hb
 cases hv
 simp only[Bool.and_eq_true,decide_eq_true_eq] at hb
 obtain⟨hi,hij,hjl,hl63⟩:=hb
 obtain⟨i,rfl⟩:=Int.eq_ofNat_of_zero_le hi
 obtain⟨j,rfl⟩:=Int.eq_ofNat_of_zero_le (Int.le_trans hi hij)
 have hij:i≤j:=by omega
 have hjl:j≤l.length:=by omega
 simp only[Int.toNat_natCast]
 obtain⟨xs,F,hr,he,hn⟩:=hrow.els ht
 have hO:∀R:V→Value→List Nat→List Nat→Prop,(∀v,R .dead v [] [])→OutL R (Zbs [V.rr T own l, .int .i64 (i:Int), .int .i64 (j:Int)] [v, .int .i64 (i:Int), .int .i64 (j:Int)]) [.dead] [] []:=fun R h=>
  (OutL.cons (p:=(V.rr T own l,v)) (t:=[]) (n:=[]) trivial (h _) .nil:OutL R [(V.rr T own l,v)] [.dead] ([]++[]) ([]++[]))
 have hFn0:(ZD l.length ty.kinds.length F).Nodup:=by rw[←hn];exact(List.nodup_append.1 hnd).2.1
 have hel:=(he.take (n:=i) (by omega)).append (he.drop j)
 have hF':∀k c,(if k<(l.take i).length then F k c else F (j+(k-(l.take i).length)) c)=F (if k<i then k else j+(k-i)) c:=fun k c=>by
  have:(l.take i).length=i:=by simp;omega
  rw[this];split <;> rfl
 have hlen:(l.take i++l.drop j).length=l.length-(j-i):=by simp;omega
 have hφ:∀k,k<(l.take i++l.drop j).length→(if k<i then k else j+(k-i))<l.length:=fun k hk=>by rw[hlen] at hk;split <;> omega
 have hsub:∀g∈ZD (l.take i++l.drop j).length ty.kinds.length (fun k c=>if k<(l.take i).length then F k c else F (j+(k-(l.take i).length)) c),g∈n1:=by
  rw[hn]
  exact ZpM fun k c hk hc=>⟨_,hφ k hk,c,hc,hF' k c⟩
 have hnod:(ZD (l.take i++l.drop j).length ty.kinds.length (fun k c=>if k<(l.take i).length then F k c else F (j+(k-(l.take i).length)) c)).Nodup:=by
  have:=Zo5 (fun k=>if k<i then k else j+(k-i)) hφ (fun k k' hk hk' e=>by
   split at e <;> split at e <;> omega) hFn0
  simpa only[hF'] using this
 by_cases heq:i=j
 ·subst heq
  obtain⟨a,cap,rfl,h1,h2⟩:=hr.slice
  refine Calls.mono (hS a l.length cap i w hjl h1 h2) ?_
  rintro e w' ⟨rfl,hk⟩
  have hk':KeptBut (Zr (.slice a l.length cap)) w w':=hk.mono (by simp)
  refine⟨_,rfl,ZjM ht (xs:=xs.take (i*ty.kinds.length)++xs.drop (i*ty.kinds.length)) ?_ (ZjL hel hsub hnd hok hlt hk' fun g hg=>.inl hg) hO hnd hlt hsub hnod hk' fun g hg=>.inl hg⟩
  rw[List.take_append_drop,List.take_append_drop]
  refine hr.keep fun g hg=>hk.block g (hlt g (List.mem_append_left _ hg)) (by simp)
 ·rcases hr.2 with⟨a,rfl,h0⟩ | ⟨g,cap,cur,rfl,hc,hg,hN,hm,hs,hx⟩
  ·omega
  have hg:=hg.zero hne
  refine Calls.mono (hD g l.length cap i j cur w hg hs hN hm (by rw[hx];exact he.one) (by omega) hjl) ?_
  rintro e w' ⟨rfl,cur',k1,k2,k3,k4⟩
  have htop:Zr (Value.slice (some ⟨g,0,none⟩) (l.length-(j-i)) cap)=Zr (Value.slice (some ⟨g,0,none⟩) l.length cap):=by rw[Zc0 _ _ _ hc,Zc0 _ _ _ hc]
  have hk':KeptBut (Zr (Value.slice (some ⟨g,0,none⟩) l.length cap)) w w':=by rw[Zc0 _ _ _ hc];exact k4
  refine⟨_,rfl,ZjM ht (xs:=xs.take (i*ty.kinds.length)++xs.drop (j*ty.kinds.length)) ?_ (ZjL hel hsub hnd hok hlt hk' fun g hg=>.inl (htop▸hg)) hO hnd hlt hsub hnod hk' fun g hg=>.inl (htop▸hg)⟩
  rw[hlen]
  exact ZhN hc k1 (by omega) hm k2 (by rw[k3,hx])
theorem Zln {f:FuncId} {T:TypeId} {ty:Ty} {own:Bool} {l x r:List V} {i:Int} (ht:tab T=some ty) (hI:ZhM P f T ty.kinds.length ty.bytes) (hv:Zcp ty.bytes l i x=some r):
  SumOk P tab f [.rr T own l, .int .i64 i, .rr T own x] (.rr T own r,[.dead, .dead]):=by
 intro w ok vals t n hrq hnd hok hlt
 cases hrq with | @cons _ v t1 n1 _ vs1 ts1 ns1 hx hxs=>
 cases hxs with | @cons _ v2 t2 n2 _ vs2 ts2 ns2 hx2 hxs=>
 cases hxs with | @cons _ v3 t3 n3 _ vs3 ts3 ns3 hx3 hxs=>
 cases hxs
 obtain⟨rfl,rfl,rfl⟩:=ZmV hx2
 obtain⟨hrow,rfl⟩:=ZkS hx
 obtain⟨hrow3,rfl⟩:=ZkS hx3
 simp only[List.append_nil,List.nil_append] at hnd hok hlt ⊢
 unfold Zcp at hv
 rw[Bool.cond_eq_ite] at hv
 split at hv
 case isFalse=>cases hv
 rename_i hb
 cases hv
 simp only[Bool.and_eq_true,decide_eq_true_eq,Zv] at hb
 obtain⟨hi,hil,hx1,hr63,hrb⟩:=hb
 obtain⟨i,rfl⟩:=Int.eq_ofNat_of_zero_le hi
 have hil:i≤l.length:=by omega
 simp only[Int.toNat_natCast]
 obtain⟨xs,F,hr,he,hn⟩:=hrow.els ht
 obtain⟨ys,G,hr3,he3,hn3⟩:=hrow3.els ht
 subst hn;subst hn3
 have hO:∀R:V→Value→List Nat→List Nat→Prop,(∀v,R .dead v [] [])→OutL R (Zbs [V.rr T own l, .int .i64 (i:Int), .rr T own x] [v, .int .i64 (i:Int),v3]) [.dead, .dead] [] []:=fun R h=>
  (OutL.cons (p:=(V.rr T own l,v)) (t:=[]) (n:=[]) trivial (h _) (OutL.cons (p:=(V.rr T own x,v3)) (t:=[]) (n:=[]) trivial (h _) .nil):OutL R [(V.rr T own l,v),(V.rr T own x,v3)] [.dead, .dead] ([]++([]++[])) ([]++([]++[])))
 have hel:=((he.take (n:=i) hil).append he3).append (he.drop i)
 have hli:(l.take i).length=i:=by simp;omega
 have hlix:(l.take i++x).length=i+1:=by simp[hx1];omega
 have hlen:(l.take i++x++l.drop i).length=l.length+1:=by simp[hx1];omega
 obtain⟨F',hF'⟩:∃F':Nat→Nat→List Nat,F'=fun k c=>if k<(l.take i++x).length then(if k<(l.take i).length then F k c else G (k-(l.take i).length) c) else F (i+(k-(l.take i++x).length)) c:=⟨_,rfl⟩
 rw[←hF'] at hel
 have c1:∀k c,k<i→F' k c=F k c:=fun k c hk=>by rw[hF'];simp only[hlix,hli];rw[if_pos (by omega),if_pos hk]
 have c2:∀c,F' i c=G 0 c:=fun c=>by rw[hF'];simp only[hlix,hli];rw[if_pos (by omega),if_neg (by omega),Nat.sub_self]
 have c3:∀k c,i<k→F' k c=F (k-1) c:=fun k c hk=>by rw[hF'];simp only[hlix,hli];rw[if_neg (by omega)];congr 1;omega
 obtain⟨⟨hT1,hT2,hT3⟩,⟨hN1,hN2,hN3⟩,hTN⟩:=(List.nodup_append.1 hnd).imp List.nodup_append.1 fun h=>h.imp List.nodup_append.1 id
 have hFn:=nodup_flatF.1 hN1
 have hGn:=nodup_flatF.1 hN2
 have hFG:∀k c c' g,k<l.length→c<ty.kinds.length→c'<ty.kinds.length→g∈F k c→g∈G 0 c'→False:=fun k c c' g hk hc hc' h1 h2=>hN3 g (mem_flatF.2 ⟨k,hk,c,hc,h1⟩) g (mem_flatF.2 ⟨0,by omega,c',hc',h2⟩) rfl
 have hsub:∀g∈ZD (l.take i++x++l.drop i).length ty.kinds.length F',g∈ZD l.length ty.kinds.length F++ZD x.length ty.kinds.length G:=fun g hg0=>by
  obtain⟨k,hk,c,hc,hg⟩:=mem_flatF.1 hg0
  clear hg0
  rw[hlen] at hk
  rcases Nat.lt_trichotomy k i with h | h | h
  ·rw[c1 k c h] at hg;exact List.mem_append_left _ (mem_flatF.2 ⟨k,by omega,c,hc,hg⟩)
  ·subst h;rw[c2 c] at hg;exact List.mem_append_right _ (mem_flatF.2 ⟨0,by omega,c,hc,hg⟩)
  ·rw[c3 k c h] at hg;exact List.mem_append_left _ (mem_flatF.2 ⟨k-1,by omega,c,hc,hg⟩)
 have hnod:(ZD (l.take i++x++l.drop i).length ty.kinds.length F').Nodup:=by
  rw[nodup_flatF,hlen]
  refine⟨fun k c hk hc=>?_,fun k c k' c' hk hc hk' hc' hne g hg hg'=>?_⟩
  ·rcases Nat.lt_trichotomy k i with h | h | h
   ·rw[c1 k c h];exact hFn.1 k c (by omega) hc
   ·subst h;rw[c2 c];exact hGn.1 0 c (by omega) hc
   ·rw[c3 k c h];exact hFn.1 _ c (by omega) hc
  ·rcases Nat.lt_trichotomy k i with h | h | h <;> rcases Nat.lt_trichotomy k' i with h' | h' | h'
   ·rw[c1 k c h] at hg;rw[c1 k' c' h'] at hg';exact hFn.2 k c k' c' (by omega) hc (by omega) hc' hne g hg hg'
   ·subst h';rw[c1 k c h] at hg;rw[c2 c'] at hg';exact hFG k c c' g (by omega) hc hc' hg hg'
   ·rw[c1 k c h] at hg;rw[c3 k' c' h'] at hg';exact hFn.2 k c (k'-1) c' (by omega) hc (by omega) hc' (.inl (by omega)) g hg hg'
   ·subst h;rw[c2 c] at hg;rw[c1 k' c' h'] at hg';exact hFG k' c' c g (by omega) hc' hc hg' hg
   ·subst h;subst h';rw[c2 c] at hg;rw[c2 c'] at hg';exact hGn.2 0 c 0 c' (by omega) hc (by omega) hc' (.inr (by rcases hne with e | e;exact absurd rfl e;exact e)) g hg hg'
   ·subst h;rw[c2 c] at hg;rw[c3 k' c' h'] at hg';exact hFG (k'-1) c' c g (by omega) hc' hc hg' hg
   ·rw[c3 k c h] at hg;rw[c1 k' c' h'] at hg';exact hFn.2 (k-1) c k' c' (by omega) hc (by omega) hc' (.inl (by omega)) g hg hg'
   ·subst h';rw[c3 k c h] at hg;rw[c2 c'] at hg';exact hFG (k-1) c c' g (by omega) hc hc' hg hg'
   ·rw[c3 k c h] at hg;rw[c3 k' c' h'] at hg'
    exact hFn.2 (k-1) c (k'-1) c' (by omega) hc (by omega) hc' (by rcases hne with e | e;exact .inl (by omega);exact .inr e) g hg hg'
 rw[hx1] at hr3
 refine Calls.mono (hI w v v3 l.length i xs ys hr hr3 (fun g hg hg'=>hT3 g hg g hg' rfl) he.one he3.one hil hrb hr63) ?_
 rintro e w' ⟨v',rfl,k1,k2,k3⟩
 have hk':KeptBut (Zr v++Zr v3) w w':=k2.mono fun g hg=>List.mem_append_left _ hg
 have htop:∀g∈Zr v',g∈Zr v++Zr v3∨w.heap.size≤g:=fun g hg=>(k3 g hg).imp (List.mem_append_left _) id
 exact⟨v',rfl,ZjM ht (by rw[hlen];exact k1) (ZjL hel hsub hnd hok hlt hk' htop) hO hnd hlt hsub hnod hk' htop⟩
def enDel (hB:Base P tab) {f:FuncId} {fn:Func} (hf:P.funcs[f]? = some fn) (hb:(!(fn.name == "runtime.NumGoroutine")&&fn.body.isSome)=true) (T:TypeId) {ty:Ty} (ht:tab T=some ty) (own:Bool) (hD:ZhL P f T ty.kinds.length) (hS:Zfd P f) (par:List (Option TypeId)) (hne:Nat.beq T ZbJ=false:=by rfl):En P tab:=
 {f:=f
  s:=fun a=>bif Zbu [.one (.rr T own), .one (.int .i64), .one (.int .i64)] a then some ((Zdd (rd a 0).L (rd a 1).I (rd a 2).I).isSome,(V.rr T own ((Zdd (rd a 0).L (rd a 1).I (rd a 2).I).getD default),[V.dead])) else none
  ok:=by
   intro args r h
   cases hs:Zbu [.one (.rr T own), .one (.int .i64), .one (.int .i64)] args with
   | false=>rw[hs] at h;cases h
   | true=>
    rw[hs] at h
    simp only[cond_true,Option.some.injEq,Prod.mk.injEq] at h
    obtain⟨h1,h2⟩:=h
    obtain⟨x,hx⟩:=Option.isSome_iff_exists.1 h1
    rw[hx] at h2
    have ha:=Zdv (pre:=[]) hs
    simp only[List.nil_append,List.length_nil,ZdM,S2.mk,S1.mk] at ha
    rw[←ha,←h2]
    exact Zox ht hD hS hx fun e=>by rw[e,Nat.beq_refl] at hne;cases hne
  en:=Zcr hf hb,par:=par,wr:=true }
def enIns (hB:Base P tab) {f:FuncId} {fn:Func} (hf:P.funcs[f]? = some fn) (hb:(!(fn.name == "runtime.NumGoroutine")&&fn.body.isSome)=true) (T:TypeId) {ty:Ty} (ht:tab T=some ty) (own:Bool) (bytes:Nat) (hbytes:ty.bytes=bytes) (hI:ZhM P f T ty.kinds.length ty.bytes) (par:List (Option TypeId)):En P tab:=
 {f:=f
  s:=fun a=>bif Zbu [.one (.rr T own), .one (.int .i64), .one (.rr T own)] a then some ((Zcp bytes (rd a 0).L (rd a 1).I (rd a 2).L).isSome,(V.rr T own ((Zcp bytes (rd a 0).L (rd a 1).I (rd a 2).L).getD default),[V.dead,V.dead])) else none
  ok:=by
   intro args r h
   cases hs:Zbu [.one (.rr T own), .one (.int .i64), .one (.rr T own)] args with
   | false=>rw[hs] at h;cases h
   | true=>
    rw[hs] at h
    simp only[cond_true,Option.some.injEq,Prod.mk.injEq] at h
    obtain⟨h1,h2⟩:=h
    obtain⟨x,hx⟩:=Option.isSome_iff_exists.1 h1
    rw[hx] at h2
    have ha:=Zdv (pre:=[]) hs
    simp only[List.nil_append,List.length_nil,ZdM,S2.mk,S1.mk] at ha
    rw[←ha,←h2]
    subst hbytes
    exact Zln ht hI hx
  en:=Zcr hf hb,par:=par,wr:=true }
end Go.Eng
namespace Go.Eng
variable {P:Program} {tab:Tab}
def Zgq (a b:List V):Int:=bif ZcV (a.map ZaS) (b.map ZaS) then -1 else bif ZbF (a.map ZaS) (b.map ZaS) then 0 else 1
theorem ZgG:∀a b:List UInt8,Lib.compareBytes a b=if Op.bytesLess a b=true then -1 else if (a == b)=true then 0 else 1
 | [],[]=>rfl
 | [],_ :: _=>rfl
 | _ :: _,[]=>rfl
 | x :: a,y :: b=>by
  have ih:=ZgG a b
  unfold Lib.compareBytes
  simp only[Op.bytesLess,List.cons_beq_cons,Bool.or_eq_true,Bool.and_eq_true,decide_eq_true_eq]
  by_cases h1:x<y
  ·simp[h1]
  ·by_cases h2:y<x
   ·have h3:x≠y:=fun e=>h1 (e▸h2)
    simp[h1,h2,h3]
   ·have h3:x=y:=UInt8.le_antisymm (UInt8.not_lt.1 h2) (UInt8.not_lt.1 h1)
    subst h3
    simp[ih]
theorem Zjy {w:World} {ok:Nat→Prop} {e:TypeId} {et:Ty} (he:tab e=some et) (ha:et.agg=false) (hk:et.kinds=[.int .u8]) {l:List V} {v:Value} (h:Rp tab w ok (.inl e l) v):
  ∃s,(Extern.Bytes.bytesOf v).run P w = .ok s w∧Z9 s=l.map ZaS:=by
 cases h with | inl _ _ ty a cap g off cv h1 h2 h3 h4 h5 h6=>
 obtain rfl:et=ty:=Option.some.inj (he.symm.trans h1)
 by_cases hl:l=[]
 ·subst hl
  cases a with
  | none=>exact⟨.empty,by simp[Extern.Bytes.bytesOf],rfl⟩
  | some a=>exact⟨.empty,by simp[Extern.Bytes.bytesOf,Extern.Bytes.loadBytes],rfl⟩
 ·obtain⟨rfl,-⟩:=h3 hl
  have hel:∀i,i<l.length→cv i 0 = .int .u8 ((l.getD i .dead).I):=fun i hi=>by
   have hs:=h4 i hi
   have hc0:(l.getD i .dead).cell 0=l.getD i .dead:=by
    have hna:=hs.2.2.1 ha
    cases hx:l.getD i .dead <;> first | rfl | exact absurd hx (hna _)
   have hkk:=hs.2.2.2 0 (by rw[hk];exact Nat.one_pos)
   have hr:=h6 i 0 hi (by rw[hk];exact Nat.one_pos)
   rw[hk] at hkk
   rw[hc0] at hkk hr
   cases hx:l.getD i .dead <;> rw[hx] at hkk hr <;> simp[kindOk] at hkk
   subst hkk
   rw[hr.int_eq];rfl
  have hcell:∀j x,(l.map V.I)[j]? = some x→w.cell? ((⟨g,off,none⟩:Addr).add j)=some (.int .u8 x):=fun j x hj=>by
   have hlt:j<l.length:=by have:=(List.getElem?_eq_some_iff.1 hj).1;simpa using this
   have:=h5 j 0 hlt (by rw[hk];exact Nat.one_pos)
   rw[hk] at this
   rw[Addr.add_none]
   simp only[List.length_cons,List.length_nil,Nat.zero_add,Nat.mul_one,Nat.add_zero] at this
   rw[this,hel j hlt]
   have e2:=(List.getElem?_eq_some_iff.1 hj).2
   simp at e2
   rw[←e2];simp[List.getD,hlt]
  have hrun:=Lib.run_loadBytesX (P:=P) w (l.map V.I) ⟨g,off,none⟩ .empty hcell
  rw[List.length_map] at hrun
  refine⟨_,by simp only[Extern.Bytes.bytesOf];exact hrun,?_⟩
  simp only[Z9,Lib.bytesOf]
  simp
  intro x _
  simp[ZaS]
theorem cmp_spec {a b:ByteArray} {x y:List V} (ha:Z9 a=x) (hb:Z9 b=y):Extern.BytealgCompare.cmp a b=bif ZcV x y then -1 else bif ZbF x y then 0 else 1:=by
 rw[Lib.cmp_eq,ZgG,←ha,←hb,Zml,Zh8]
 simp only[Bool.cond_eq_ite]
def CmpOk (P:Program) (f:FuncId):Prop:=∀(v1 v2:Value) (c:Int) (w:World),(Extern.BytealgCompare.compare #[v1,v2]).run P w = .ok (.int .i64 c) w→Calls P f #[v1,v2] w fun e w'=>e = .returned (.int .i64 c)∧KeptBut [] w w'
theorem rq_inl {w:World} {ok:Nat→Prop} {T:TypeId} {l:List V} {v:Value} {t n:List Nat} (h:Rq2 tab w ok (.inl T l) v t n):Rp tab w ok (.inl T l) v∧t=[]∧n=[]:=by
 cases h with | one h=>cases h with | tree h=>exact⟨h,rfl,rfl⟩
theorem Zoy {f:FuncId} {e:TypeId} {et:Ty} (he:tab e=some et) (ha:et.agg=false) (hk:et.kinds=[.int .u8]) (hC:CmpOk P f) (a b:List V):SumOk P tab f [.inl e a, .inl e b] (.int .i64 (Zgq a b),[]):=by
 intro w ok vals t n hrq hnd hok hlt
 cases hrq with | @cons _ v t1 n1 _ vs1 ts1 ns1 hx hxs=>
 cases hxs with | @cons _ v2 t2 n2 _ vs2 ts2 ns2 hx2 hxs=>
 cases hxs
 obtain⟨r1,rfl,rfl⟩:=rq_inl hx
 obtain⟨r2,rfl,rfl⟩:=rq_inl hx2
 obtain⟨s1,e1,e2⟩:=Zjy (P:=P) he ha hk r1
 obtain⟨s2,e3,e4⟩:=Zjy (P:=P) he ha hk r2
 have hrun:(Extern.BytealgCompare.compare #[v,v2]).run P w = .ok (.int .i64 (Zgq a b)) w:=by
  change Sem.run P (do pure (goInt (Extern.BytealgCompare.cmp (←Extern.Bytes.bytesOf v) (←Extern.Bytes.bytesOf v2)))) w=_
  simp only[Sem.run_bind,e1,e3,Result.andThen_ok,Sem.run_pure]
  rw[cmp_spec e2 e4]
  rfl
 refine(hC v v2 _ w hrun).mono ?_
 rintro e' w' ⟨rfl,hkp⟩
 exact⟨_,rfl,[],[],[],[], .one (.one (.tree (.int _ _))), .nil,by simp,by simp,by simp,by simp,hkp.mono (by simp)⟩
def enCmp (hB:Base P tab) {f:FuncId} {fn:Func} (hf:P.funcs[f]? = some fn) (hb:(!(fn.name == "runtime.NumGoroutine")&&fn.body.isSome)=true) (e:TypeId) {et:Ty} (he:tab e=some et) (ha:et.agg=false) (hk:et.kinds=[.int .u8]) (hC:CmpOk P f) (par:List (Option TypeId)):En P tab:=
 {f:=f
  s:=fun a=>bif Zbu [.one (.inl e), .one (.inl e)] a then some (true,(V.int .i64 (Zgq (rd a 0).L (rd a 1).L),[])) else none
  ok:=by
   intro args r h
   cases hs:Zbu [.one (.inl e), .one (.inl e)] args with
   | false=>rw[hs] at h;cases h
   | true=>
    rw[hs] at h
    simp only[cond_true,Option.some.injEq,Prod.mk.injEq,true_and] at h
    have h2:=h
    have ha':=Zdv (pre:=[]) hs
    simp only[List.nil_append,List.length_nil,ZdM,S2.mk,S1.mk] at ha'
    rw[←ha',←h2]
    exact Zoy he ha hk hC _ _
  en:=Zcr hf hb,par:=par,wr:=false }
end Go.Eng
namespace Go.Eng
variable {P:Program} {tab:Tab}
structure Reads (P:Program) (w:World) (sz m:Nat) (v:Value) (ys:List Value):Prop where
 len:ys.length=m*sz
 one:ZdU ys
 lenOf:∀W,(Builtin.lenOf v).run P W = .ok m W
 cells:∀W:World,(∀g,g<w.heap.size→W.heap[g]? = w.heap[g]?)→(Builtin.firstCells sz m v).run P W = .ok ys.toArray W
end Go.Eng
namespace Go.Eng
end Go.Eng
namespace Go.Eng
variable {P:Program} {tab:Tab}
end Go.Eng
namespace Go.Eng
noncomputable section
variable {P:Program} {tab:Tab}
def sumsK (c d e T:Nat):Sums:=fun f args=>bif Nat.beq f c then(match args with
  | [.inl e1 a, .inl e2 b]=>bif Nat.beq e1 e&&Nat.beq e2 e then some (true,(.int .i64 (Zgq a b),[])) else none
  | _=>none)
 else bif Nat.beq f d then(match args with
  | [.rr T1 own l, .int .i64 i, .int .i64 j]=>bif Nat.beq T1 T then(match Zdd l i j with | some r=>some (true,(.rr T own r,[.dead])) | none=>none) else none
  | _=>none)
 else none
theorem sumsK_ok {c d e T:Nat} {et ty:Ty} (he:tab e=some et) (ha:et.agg=false) (hk:et.kinds=[.int .u8]) (hC:CmpOk P c) (hcE:Zfy P c) (ht:tab T=some ty) (hD:ZhL P d T ty.kinds.length) (hS:Zfd P d) (hdE:Zfy P d) (hne:Nat.beq T ZbJ=false:=by rfl):Zbk P tab (sumsK c d e T):=by
 intro f args r h
 unfold sumsK at h
 cases hc:Nat.beq f c with
 | true=>
  obtain rfl:=Nat.eq_of_beq_eq_true hc
  rw[hc,cond_true] at h
  split at h
  ·rename_i e1 a e2 b
   cases hq:(Nat.beq e1 e&&Nat.beq e2 e) with
   | false=>rw[hq] at h;cases h
   | true=>
    rw[hq] at h
    cases h
    rw[Bool.and_eq_true] at hq
    obtain rfl:=Nat.eq_of_beq_eq_true hq.1
    obtain rfl:=Nat.eq_of_beq_eq_true hq.2
    exact⟨hcE,Zoy he ha hk hC a b⟩
  ·cases h
 | false=>
  rw[hc,cond_false] at h
  cases hd:Nat.beq f d with
  | false=>rw[hd] at h;cases h
  | true=>
   obtain rfl:=Nat.eq_of_beq_eq_true hd
   rw[hd,cond_true] at h
   split at h
   ·rename_i T1 own l i j
    cases hq:Nat.beq T1 T with
    | false=>rw[hq] at h;cases h
    | true=>
     rw[hq,cond_true] at h
     obtain rfl:=Nat.eq_of_beq_eq_true hq
     split at h
     ·rename_i x hx
      cases h
      exact⟨hdE,Zox ht hD hS hx fun e=>by rw[e,Nat.beq_refl] at hne;cases hne⟩
     ·cases h
   ·cases h
def cfgK (tab:Tab) (c d e T:Nat):Cfg:={ tab:=tab,sums:=sumsK c d e T,mutf:=fun f=>Nat.beq f d }
def enB {f:FuncId} {fn:Func} (hf:P.funcs[f]? = some fn) (hb:(!(fn.name == "runtime.NumGoroutine")&&fn.body.isSome)=true) {b:Bool} (h:SumOk P tab f [] (.bool b,[])):En P tab:=
 {f:=f
  s:=fun a=>bif a.isEmpty then some (true,(V.bool b,[])) else none
  ok:=by
   intro args r hr
   cases args with
   | nil=>cases hr;exact h
   | cons _ _=>cases hr
  en:=Zcr hf hb,par:=[],wr:=false }
theorem run_sum {cfg:Cfg} (hT:ZB P cfg.tab) (hS:Zbk P cfg.tab cfg.sums) (hmix:P.follows .mixedOrders=true) {il fl cl:List Nat} {cnf:Nat→Zeu} (hil:fnsB P il=true) (hfl:fnsB P fl=true) {m k:Nat} {cn:Zeu} {f:FuncId} {fn:Func} (hf:P.funcs[f]? = some fn) (hok:fnOk fn=true) {args:List V} (hlen:Nat.ble args.length fn.ntmps=true) {n:Nat} {r:V×List V}
  (h:Zdl { cfg with sums:=ZeM P cfg (ZgF P il) fl cl cnf m k } (ZgF P il) cn n fn args=some r):SumOk P cfg.tab f args r:=by
 simp only[fnOk,Bool.and_eq_true] at hok
 have hb:fn.body=some (ZM fn):=by
  unfold ZM
  cases hq:fn.body with
  | none=>rw[hq] at hok;simp at hok
  | some c=>rfl
 exact Ziy (cfg:={ cfg with sums:=ZeM P cfg (ZgF P il) fl cl cnf m k }) hT (ZkG hT hS hmix (Ziz hil) hfl cl cnf m k) hmix (Ziz hil) hf hb hok.2 (Nat.le_of_ble_eq_true hlen) h
end
end Go.Eng
