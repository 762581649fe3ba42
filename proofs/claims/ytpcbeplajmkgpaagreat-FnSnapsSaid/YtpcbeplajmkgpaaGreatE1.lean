/- An own evaluator of the program's form, proved sound, and what it says of this law's functions: part 1. -/
import Derived.Test.YtpcbeplajmkgpaaGreatE0
import Derived.Lib.ConvBytes
set_option linter.unusedVariables false
namespace Go.Eng
section
variable {P:Program} {tab:Tab}
inductive RqL (R:V→Value→List Nat→List Nat→Prop):List V→List Value→List Nat→List Nat→Prop where
 | nil:RqL R [] [] [] []
 | cons {x:V} {v:Value} {t n:List Nat} {xs:List V} {vs:List Value} {ts ns:List Nat}:R x v t n→RqL R xs vs ts ns→RqL R (x :: xs) (v :: vs) (t++ts) (n++ns)
inductive Rq1 (tab:Tab) (w:World) (ok:Nat→Prop):V→Value→List Nat→List Nat→Prop where
 | tree {x:V} {v:Value}:Rp tab w ok x v→Rq1 tab w ok x v [] []
 | row {T:TypeId} {own:Bool} {els:List V} {v:Value} {n:List Nat}:RowT tab w ok T own els v n→Rq1 tab w ok (.rr T own els) v (Zr v) n
 | deep {T:TypeId} {els:List V} {v:Value} {n:List Nat}:RowT tab w ok T true els v n→Rq1 tab w ok (.dr T els) v (Zr v++n) []
inductive Rq2 (tab:Tab) (w:World) (ok:Nat→Prop):V→Value→List Nat→List Nat→Prop where
 | one {x:V} {v:Value} {t n:List Nat}:Rq1 tab w ok x v t n→Rq2 tab w ok x v t n
 | agg {cs:List V} {vs:List Value} {t n:List Nat}:RqL (Rq1 tab w ok) cs vs t n→Rq2 tab w ok (.agg cs) (.agg vs.toArray) t n
 | nb {T:TypeId} {cs:List V} {c:Array Value} {TT:TypeId} {g:Nat} {t n:List Nat}:RqL (Rq1 tab w ok) cs c.toList t n→w.heap[g]? = some (.cells c TT (0,0))→
   Rq2 tab w ok (.nb T cs) (.pointer (some ⟨g,0,none⟩)) (g :: t) n
 | rf {T:TypeId} {cs:List V} {c:Array Value} {TT:TypeId} {g:Nat} {t n:List Nat}:RqL (Rq1 tab w ok) cs c.toList t n→w.heap[g]? = some (.cells c TT (0,0))→
   Rq2 tab w ok (.rf T cs) (.pointer (some ⟨g,0,none⟩)) (g :: t) n
 | ro {T:TypeId} {off:Nat} {cs:List V} {c:Array Value} {TT:TypeId} {g:Nat} {t n:List Nat}:RqL (Rq1 tab w ok) cs c.toList t n→w.heap[g]? = some (.cells c TT (0,0))→
   Rq2 tab w ok (.ro T off cs) (.pointer (some ⟨g,off,none⟩)) (g :: t) n
inductive Rq3 (tab:Tab) (w:World) (ok:Nat→Prop):V→Value→List Nat→List Nat→Prop where
 | one {x:V} {v:Value} {t n:List Nat}:Rq2 tab w ok x v t n→Rq3 tab w ok x v t n
 | tup {cs:List V} {vs:List Value} {t n:List Nat}:RqL (Rq2 tab w ok) cs vs t n→Rq3 tab w ok (.tup cs) (.tuple vs.toArray) t n
theorem RqL.mono {R R':V→Value→List Nat→List Nat→Prop} (h:∀x v t n,R x v t n→R' x v t n) {xs:List V} {vs:List Value} {t n:List Nat} (hr:RqL R xs vs t n):RqL R' xs vs t n:=by
 induction hr with
 | nil=>exact .nil
 | cons h1 _ ih=>exact .cons (h _ _ _ _ h1) ih
theorem RqL.length {R:V→Value→List Nat→List Nat→Prop} {xs:List V} {vs:List Value} {t n:List Nat} (hr:RqL R xs vs t n):vs.length=xs.length:=by
 induction hr with
 | nil=>rfl
 | cons _ _ ih=>simp[ih]
theorem RqL.of_trees {w:World} {ok:Nat→Prop}:∀{cs:List V} {vs:List Value},vs.length=cs.length→(∀j,j<cs.length→Rp tab w ok (cs.getD j .dead) (vs.getD j undef))→
  RqL (Rq1 tab w ok) cs vs [] []
 | [],[],_,_=>.nil
 | c :: cs,v :: vs,hl,h=>.cons (t:=[]) (n:=[]) (.tree (by simpa using h 0 (by simp))) (RqL.of_trees (by simpa using hl) fun j hj=>by simpa using h (j+1) (by simpa using hj))
 | [],_ :: _,hl,_=>by simp at hl
 | _ :: _,[],hl,_=>by simp at hl
structure Bd where
 blk:Blk
 rb:RB
 t:List Nat
 n:List Nat
def Adopted (tab:Tab) (w:World) (ok:Nat→Prop) (nid:Nat) (bs:List Blk) (t n:List Nat) (S:(Nat→Option RB)→Prop):Prop:=
 ∃Bs:List Bd,bs=Bs.map (·.blk)∧t=Bs.flatMap (·.t)∧n=Bs.flatMap (·.n)∧
  ∀ρ,(∀k b,Bs[k]? = some b→ρ (nid+k)=some b.rb)→S ρ∧∀b∈Bs,BlkIs tab w ok ρ b.blk (some b.rb) b.t b.n
theorem Adopted.none {w:World} {ok:Nat→Prop} {nid:Nat} {S:(Nat→Option RB)→Prop} (h:∀ρ,S ρ):Adopted tab w ok nid [] [] [] S:=
 ⟨[],rfl,rfl,rfl,fun ρ _=>⟨h ρ,by simp⟩⟩
theorem Adopted.append {w:World} {ok:Nat→Prop} {nid:Nat} {b1 b2:List Blk} {t1 n1 t2 n2:List Nat} {S1 S2 S:(Nat→Option RB)→Prop}
  (h1:Adopted tab w ok nid b1 t1 n1 S1) (h2:Adopted tab w ok (nid+b1.length) b2 t2 n2 S2) (hS:∀ρ,S1 ρ→S2 ρ→S ρ):Adopted tab w ok nid (b1++b2) (t1++t2) (n1++n2) S:=by
 obtain⟨B1,rfl,rfl,rfl,k1⟩:=h1
 obtain⟨B2,rfl,rfl,rfl,k2⟩:=h2
 refine⟨B1++B2,by simp,by simp,by simp,fun ρ hρ=>?_⟩
 obtain⟨s1,e1⟩:=k1 ρ fun k b hb=>hρ k b (by
  rw[List.getElem?_append_left (List.getElem?_eq_some_iff.1 hb).1];exact hb)
 obtain⟨s2,e2⟩:=k2 ρ fun k b hb=>by
  have:=hρ (B1.length+k) b (by rw[List.getElem?_append_right (by omega)];simpa using hb)
  simpa [Nat.add_assoc] using this
 exact⟨hS ρ s1 s2,fun b hb=>(List.mem_append.1 hb).elim (e1 b) (e2 b)⟩
theorem Adopted.weaken {w:World} {ok:Nat→Prop} {nid:Nat} {bs:List Blk} {t n:List Nat} {S S':(Nat→Option RB)→Prop} (h:Adopted tab w ok nid bs t n S) (hS:∀ρ,S ρ→S' ρ):
  Adopted tab w ok nid bs t n S':=by
 obtain⟨B,e1,e2,e3,k⟩:=h
 exact⟨B,e1,e2,e3,fun ρ hρ=>⟨hS ρ (k ρ hρ).1,(k ρ hρ).2⟩⟩
theorem Zje {w:World} {ok:Nat→Prop} {x:V} {v:Value} (h:Rp tab w ok x v) (nid:Nat):ZaX nid x=(x,[]):=by
 cases h <;> rfl
theorem Zc8 {w:World} {ok:Nat→Prop} {x:V} {v:Value} {t n:List Nat} (h:Rq1 tab w ok x v t n) (nid:Nat):
  Adopted tab w ok nid (ZaX nid x).2 t n fun ρ=>Rs tab w ok ρ (ZaX nid x).1 v:=by
 cases h with
 | tree h=>rw[Zje h];exact .none fun ρ=>.tree h
 | row hrow=>
  rename_i T own els
  obtain⟨ty,xs,ht,hr,-⟩:=id hrow
  refine⟨[⟨.row T own els, .row T ty.kinds.length els.length v,Zr v,n⟩],rfl,by simp,by simp,fun ρ hρ=>⟨?_,fun b hb=>?_⟩⟩
  ·have h0:=hρ 0 _ rfl
   simp only[Nat.add_zero] at h0
   rcases hr.2 with⟨a,rfl,hz⟩ | ⟨g,cap,cur,rfl,hc,hg,hn,hm,r⟩
   ·have:=Rs.sl (tab:=tab) (w:=w) (ok:=ok) (ρ:=ρ) nid T 0 none ty.kinds.length els.length a a 0 els.length (by rw[hz] at h0 ⊢;exact h0) (by omega) (by simp) (by simp) (by omega) (fun _=>rfl)
    rw[hz] at this
    exact this
   ·exact Rs.sl nid T 0 none ty.kinds.length els.length _ _ cap els.length h0 hn (by simp) (by simp) (fun _=>by simp[Addr.add]) (fun _=>rfl)
  ·simp at hb;subst hb
   exact⟨ty,v,ht,rfl,hrow,rfl⟩
 | @deep T els _ n hrow=>
  obtain⟨ty,xs,ht,hr,-⟩:=id hrow
  refine⟨[⟨.drow T els, .row T ty.kinds.length els.length v,Zr v++n,[]⟩],rfl,by simp,by simp,fun ρ hρ=>⟨?_,fun b hb=>?_⟩⟩
  ·have h0:=hρ 0 _ rfl
   simp only[Nat.add_zero] at h0
   rcases hr.2 with⟨a,rfl,hz⟩ | ⟨g,cap,cur,rfl,hc,hg,hn,hm,r⟩
   ·have:=Rs.sl (tab:=tab) (w:=w) (ok:=ok) (ρ:=ρ) nid T 0 none ty.kinds.length els.length a a 0 els.length (by rw[hz] at h0 ⊢;exact h0) (by omega) (by simp) (by simp) (by omega) (fun _=>rfl)
    rw[hz] at this
    exact this
   ·exact Rs.sl nid T 0 none ty.kinds.length els.length _ _ cap els.length h0 hn (by simp) (by simp) (fun _=>by simp[Addr.add]) (fun _=>rfl)
  ·simp at hb;subst hb
   exact⟨ty,v,n,ht,rfl,hrow,rfl,rfl⟩
def RsL (tab:Tab) (w:World) (ok:Nat→Prop) (ρ:Nat→Option RB) (xs:List V) (vs:List Value):Prop:=
 vs.length=xs.length∧∀j,j<xs.length→Rs tab w ok ρ (xs.getD j .dead) (vs.getD j undef)
theorem RsL.cons {w:World} {ok:Nat→Prop} {ρ:Nat→Option RB} {x:V} {v:Value} {xs:List V} {vs:List Value} (h:Rs tab w ok ρ x v) (hs:RsL tab w ok ρ xs vs):RsL tab w ok ρ (x :: xs) (v :: vs):=by
 refine⟨by simp[hs.1],fun j hj=>?_⟩
 cases j with
 | zero=>simpa using h
 | succ j=>simpa using hs.2 j (by simpa using hj)
theorem RsL.nil {w:World} {ok:Nat→Prop} {ρ:Nat→Option RB}:RsL tab w ok ρ [] []:=⟨rfl,by simp⟩
theorem Zes {w:World} {ok:Nat→Prop} {R:V→Value→List Nat→List Nat→Prop} {f:Nat→V→V×List Blk}
  (hf:∀x v t n nid,R x v t n→Adopted tab w ok nid (f nid x).2 t n fun ρ=>Rs tab w ok ρ (f nid x).1 v) {xs:List V} {vs:List Value} {t n:List Nat} (h:RqL R xs vs t n):
  ∀nid,Adopted tab w ok nid (ZaC f nid xs).2 t n fun ρ=>RsL tab w ok ρ (ZaC f nid xs).1 vs:=by
 induction h with
 | nil=>exact fun nid=>.none fun ρ=>.nil
 | cons h1 _ ih=>
  intro nid
  exact(hf _ _ _ _ nid h1).append (ih _) fun ρ s1 s2=>RsL.cons s1 s2
theorem ZgR {w:World} {ok:Nat→Prop} {T:TypeId} {cs:List V} {c:Array Value} {TT:TypeId} {g:Nat} {t n:List Nat} (h:RqL (Rq1 tab w ok) cs c.toList t n)
  (hg:w.heap[g]? = some (.cells c TT (0,0))) (nid off:Nat):
  Adopted tab w ok nid (.box T (ZaC ZaX (nid+1) cs).1 :: (ZaC ZaX (nid+1) cs).2) (g :: t) n fun ρ=>Rs tab w ok ρ (.bp nid off) (.pointer (some ⟨g,off,none⟩)):=by
 obtain⟨Bs,e1,rfl,rfl,hk⟩:=Zes (R:=Rq1 tab w ok) (f:=ZaX) (fun x v t n nid h=>Zc8 h nid) h (nid+1)
 refine⟨⟨.box T (ZaC ZaX (nid+1) cs).1, .box g,[g],[]⟩ :: Bs,by simp[e1],by simp,by simp,fun ρ hρ=>?_⟩
 have h0:=hρ 0 _ rfl
 simp only[Nat.add_zero] at h0
 obtain⟨⟨s1,s2⟩,hb⟩:=hk ρ fun k b hb=>by
  have:=hρ (k+1) b (by simpa using hb)
  rw[←this];congr 1;omega
 refine⟨.bp nid off g h0,fun b hb'=>?_⟩
 rcases List.mem_cons.1 hb' with rfl | hb'
 ·exact⟨g,c,TT,rfl,hg,by simpa using s1,fun j hj=>by have:=s2 j hj;rw[Zbj] at this;exact this,rfl,rfl⟩
 ·exact hb b hb'
theorem ZeV {w:World} {ok:Nat→Prop} {x:V} {v:Value} {t n:List Nat} (h:Rq2 tab w ok x v t n) (nid:Nat):
  Adopted tab w ok nid (Zb4 nid x).2 t n fun ρ=>Rs tab w ok ρ (Zb4 nid x).1 v:=by
 have hagg:∀(cs:List V) (vs:List Value) (t n:List Nat),RqL (Rq1 tab w ok) cs vs t n→Adopted tab w ok nid (Zb4 nid (.agg cs)).2 t n fun ρ=>Rs tab w ok ρ (Zb4 nid (.agg cs)).1 (.agg vs.toArray):=
  fun cs vs t n h=>(Zes (R:=Rq1 tab w ok) (f:=ZaX) (fun x v t n nid h=>Zc8 h nid) h nid).weaken fun ρ hs=>Rs.agg _ _ hs.1 hs.2
 cases h with
 | agg h=>exact hagg _ _ _ _ h
 | nb h hg=>exact ZgR h hg nid 0
 | rf h hg=>exact ZgR h hg nid 0
 | ro h hg=>exact ZgR h hg nid _
 | one h=>
  cases h with
  | row h=>exact Zc8 (.row h) nid
  | deep h=>exact Zc8 (.deep h) nid
  | tree h=>
   cases h with
   | agg cs vals hl h=>exact hagg cs vals [] [] (.of_trees hl h)
   | _=>exact .none fun ρ=>.tree (by constructor <;> assumption)
theorem ZhX {w:World} {ok:Nat→Prop} {x:V} {v:Value} {t n:List Nat} (h:Rq3 tab w ok x v t n) (nid:Nat):
  Adopted tab w ok nid (Zdx nid x).2 t n fun ρ=>Rs tab w ok ρ (Zdx nid x).1 v:=by
 cases h with
 | tup h=>exact(Zes (R:=Rq2 tab w ok) (f:=Zb4) (fun x v t n nid h=>ZeV h nid) h nid).weaken fun ρ hs=>Rs.tup _ _ hs.1 hs.2
 | one h=>
  have:=ZeV h nid
  cases h with
  | one h=>
   cases h with
   | row h=>exact this
   | deep h=>exact this
   | tree h=>cases h <;> exact this
  | _=>exact this
end
end Go.Eng
namespace Go.Eng
section
variable {P:Program} {tab:Tab}
structure Given (E:Entry) (M:Mem) (K S t n:List Nat) (Q:(Nat→Prop)→Prop):Prop where
 top:∀g∈t,∃k∈K,g∈M.top k
 nest:∀g∈n,g∈M.foot K
 nodup:K.Nodup→(t++n).Nodup
 is:K.Nodup→∀ok':Nat→Prop,(∀g,okS E M g→ok' g)→(∀k∈K,∀g∈M.top k,g∉t→ok' g)→(∀k∈S,∀g∈M.top k,ok' g)→Q ok'
theorem Given.none {E:Entry} {M:Mem} {Q:(Nat→Prop)→Prop} (h:∀ok':Nat→Prop,(∀g,okS E M g→ok' g)→Q ok'):Given E M [] [] [] [] Q:=
 ⟨by simp,by simp,by simp,fun _ ok' h1 _ _=>h ok' h1⟩
theorem Given.mono {E:Entry} {M:Mem} {K S t n:List Nat} {Q Q':(Nat→Prop)→Prop} (h:Given E M K S t n Q) (hQ:∀ok',Q ok'→Q' ok'):Given E M K S t n Q':=
 ⟨h.top,h.nest,h.nodup,fun k ok' h1 h2 h3=>hQ _ (h.is k ok' h1 h2 h3)⟩
theorem Given.foot {E:Entry} {M:Mem} {K S t n:List Nat} {Q:(Nat→Prop)→Prop} (h:Given E M K S t n Q):∀g∈t++n,g∈M.foot K:=by
 intro g hg
 rcases List.mem_append.1 hg with hg | hg
 ·obtain⟨k,hk,hgk⟩:=h.top g hg
  exact Mem.mem_foot.2 ⟨k,hk,List.mem_append_left _ hgk⟩
 ·exact h.nest g hg
theorem ZlX {t1 n1 t2 n2:List Nat} (h1:(t1++n1).Nodup) (h2:(t2++n2).Nodup) (h:∀g∈t1++n1,g∉t2++n2):((t1++t2)++(n1++n2)).Nodup:=by
 have hp:((t1++t2)++(n1++n2)).Perm ((t1++n1)++(t2++n2)):=by
  rw[List.append_assoc,List.append_assoc]
  exact List.Perm.append_left t1 (List.perm_append_comm_assoc _ _ _)
 rw[hp.nodup_iff,List.nodup_append]
 exact⟨h1,h2,fun a ha b hb e=>h a ha (e▸hb)⟩
theorem Given.append {E:Entry} {M:Mem} (hM:MemOk tab E M) {K1 S1 t1 n1 K2 S2 t2 n2:List Nat} {Q1 Q2 Q:(Nat→Prop)→Prop} (h1:Given E M K1 S1 t1 n1 Q1) (h2:Given E M K2 S2 t2 n2 Q2)
  (hQ:∀ok',Q1 ok'→Q2 ok'→Q ok'):Given E M (K1++K2) (S1++S2) (t1++t2) (n1++n2) Q:=by
 have hap:(K1++K2).Nodup→∀g∈M.foot K1,g∉M.foot K2:=fun hk=>by
  rw[List.nodup_append] at hk
  exact hM.foot_apart fun k hk1 hk2=>hk.2.2 k hk1 k hk2 rfl
 refine⟨fun g hg=>?_,fun g hg=>?_,fun hk=>?_,fun hk ok' o1 o2 o3=>?_⟩
 ·rcases List.mem_append.1 hg with hg | hg
  ·obtain⟨k,hk,hgk⟩:=h1.top g hg;exact⟨k,List.mem_append_left _ hk,hgk⟩
  ·obtain⟨k,hk,hgk⟩:=h2.top g hg;exact⟨k,List.mem_append_right _ hk,hgk⟩
 ·unfold Mem.foot
  rw[List.flatMap_append]
  rcases List.mem_append.1 hg with hg | hg
  ·exact List.mem_append_left _ (h1.nest g hg)
  ·exact List.mem_append_right _ (h2.nest g hg)
 ·have hk':=List.nodup_append.1 hk
  exact ZlX (h1.nodup hk'.1) (h2.nodup hk'.2.1) fun g hg hg'=>hap hk g (h1.foot g hg) (h2.foot g hg')
 ·have hk':=List.nodup_append.1 hk
  refine hQ ok' (h1.is hk'.1 ok' o1 (fun k hkk g hg hgt=>o2 k (List.mem_append_left _ hkk) g hg fun hg'=>?_) fun k hkk=>o3 k (List.mem_append_left _ hkk))
   (h2.is hk'.2.1 ok' o1 (fun k hkk g hg hgt=>o2 k (List.mem_append_right _ hkk) g hg fun hg'=>?_) fun k hkk=>o3 k (List.mem_append_right _ hkk))
  ·rcases List.mem_append.1 hg' with hg' | hg'
   ·exact hgt hg'
   ·exact hap hk g (Mem.mem_foot.2 ⟨k,hkk,List.mem_append_left _ hg⟩) (h2.foot g (List.mem_append_left _ hg'))
  ·rcases List.mem_append.1 hg' with hg' | hg'
   ·exact hap hk g (h1.foot g (List.mem_append_left _ hg')) (Mem.mem_foot.2 ⟨k,hkk,List.mem_append_left _ hg⟩)
   ·exact hgt hg'
theorem Zhx {E:Entry} {M:Mem} (hM:MemOk tab E M) {x y:V} {v:Value} {S log:List Nat} (hx:M.Rs tab E x v) (h:ZdW x M.hp=some ((y,S),log)):
  Given E M [] S [] [] fun ok'=>Rp tab M.w ok' y v:=by
 refine⟨by simp,by simp,by simp,fun _ ok' h1 _ h3=>?_⟩
 have htree:Rp tab M.w (okS E M) y v→Rp tab M.w ok' y v:=fun hr=>hr.keep h1 fun _ _=>rfl
 cases x with
 | sl id T off len=>
  obtain⟨blk,l1,b1,l1',h6,h7,h8⟩:=Zj h
  cases h8
  obtain⟨h6,-⟩:=ZaH h6
  cases blk with
  | box T cs=>exact(Zo h7).elim
  | drow T' els=>
   cases Zm h7
   exact sl_treeD hM hx h6 (h3 id (by simp))
  | hrow _ _ _ _ _=>exact(Zo h7).elim
  | grow _ _=>exact(Zo h7).elim
  | row T' own' els=>
   cases Zm h7
   exact Zf7 hM hx h6 h1 (h3 id (by simp))
 | inl T l=>cases Zm (h:=M.hp) h;exact htree hx.inl
 | nil T=>cases Zm (h:=M.hp) h;obtain⟨a,rfl⟩:=hx.nil;exact .nil _ _
 | int k n=>cases Zm (h:=M.hp) h;rw[hx.int];exact .int _ _
 | bool b=>cases Zm (h:=M.hp) h;rw[hx.bool];exact .bool _
 | str l=>cases Zm (h:=M.hp) h;obtain⟨s,rfl,hs⟩:=hx.str;exact .str _ _ hs
 | ep cs off=>cases Zm (h:=M.hp) h;exact htree hx.ep
 | _=>exact(Zo (h:=M.hp) h).elim
theorem ZeW {E:Entry} {M:Mem} (hM:MemOk tab E M) {x y:V} {v:Value} {K log:List Nat} (hx:M.Rs tab E x v) (h:Zb3 x M.hp=some ((y,K),log)):
  ∃t n,Given E M K [] t n fun ok'=>Rq1 tab M.w ok' y v t n:=by
 have htree:K=[]→(∀ok':Nat→Prop,(∀g,okS E M g→ok' g)→Rp tab M.w ok' y v)→∃t n,Given E M K [] t n fun ok'=>Rq1 tab M.w ok' y v t n:=fun e hr=>by
  subst e;exact⟨[],[], .none fun ok' h=>.tree (hr ok' h)⟩
 cases x with
 | sl id T off len=>
  obtain⟨blk,l1,b1,l1',h6,h7,h8⟩:=Zj h
  cases h8
  obtain⟨h6,-⟩:=ZaH h6
  cases blk with
  | box T cs=>exact(Zo h7).elim
  | drow T' els=>
   by_cases hfull:off=0∧len=none
   ·obtain⟨rfl,rfl⟩:=hfull
    cases Zm h7
    obtain⟨rfl,ty',a,a',cap,m,q1,q2,q3,q4,q5,q6,q7,rfl,q8,q9⟩:=hM.sl' hx h6 rfl
    obtain⟨ty2,v2,xs,F,k1,k2,k3,k4,k5,k6,k7,k8⟩:=hM.drow h6
    obtain rfl:ty2=ty':=Option.some.inj (k1.symm.trans q1)
    have e2:=k2.symm.trans q2
    simp only[Option.some.injEq,RB.row.injEq,true_and] at e2
    subst e2
    obtain rfl:=q7 rfl
    simp only[Option.getD_none,Nat.sub_zero] at q4
    subst q4
    have hnd:=hM.nodup id
    refine⟨M.top id,[],fun g hg=>⟨id,by simp,hg⟩,by simp,fun _=>by simpa [k7] using hnd,fun _ ok' h1 _ _=>?_⟩
    have:=Rq1.deep (ok:=ok') (k8.keep (fun _ h=>h.elim) (fun _ h=>h.elim) fun _ _=>rfl)
    rw[←k6] at this
    exact this
   ·have h7':(RM.fail:RM (V×List Nat)) M.hp=some ((y,K),l1'):=by
     rw[←h7]
     dsimp only
     split
     ·exact absurd ⟨rfl,rfl⟩ hfull
     ·rfl
    exact(Zo h7').elim
  | hrow _ _ _ _ _=>exact(Zo h7).elim
  | grow _ _=>exact(Zo h7).elim
  | row T' own' els=>
   by_cases hfull:off=0∧len=none
   ·obtain⟨rfl,rfl⟩:=hfull
    cases Zm h7
    obtain rfl:=hM.sl_ty hx h6
    obtain⟨ty2,v2,xs,k1,k2,k3,k4,k5,k6,k7⟩:=hM.row h6
    obtain⟨ty',a,a',cap,m,q1,q2,q3,q4,q5,q6,q7,rfl,q8,q9⟩:=hM.sl hx h6
    obtain rfl:ty2=ty':=Option.some.inj (k1.symm.trans q1)
    have e2:=k2.symm.trans q2
    simp only[Option.some.injEq,RB.row.injEq,true_and] at e2
    subst e2
    obtain rfl:=q7 rfl
    simp only[Option.getD_none,Nat.sub_zero] at q4
    subst q4
    have hnd:=hM.nodup id
    refine⟨M.top id,M.nest id,fun g hg=>⟨id,by simp,hg⟩,fun g hg=>by simp[Mem.foot,hg],fun _=>hnd,fun _ ok' h1 _ _=>?_⟩
    have hr:RowT tab M.w ok' T own' els (.slice a' els.length cap) (M.nest id):=k6.keep h1 (fun _ _=>rfl) fun _ _=>rfl
    have:=Rq1.row hr
    rw[←k5] at this
    exact this
   ·have h7':RM.ret (V.inl T (cut els off len),[id]) M.hp=some ((y,K),l1'):=by
     rw[←h7]
     dsimp only
     split
     ·exact absurd ⟨rfl,rfl⟩ hfull
     ·rfl
    cases Zm h7'
    exact⟨[],[],by simp,by simp,by simp,fun _ ok' h1 h2 _=>.tree (Zf7 hM hx h6 h1 fun g hg=>h2 id (by simp) g hg (by simp))⟩
 | inl T l=>cases Zm (h:=M.hp) h;exact htree rfl fun ok' h1=>hx.inl.keep h1 fun _ _=>rfl
 | nil T=>cases Zm (h:=M.hp) h;obtain⟨a,rfl⟩:=hx.nil;exact htree rfl fun _ _=>.nil _ _
 | int k n=>cases Zm (h:=M.hp) h;obtain rfl:=hx.int;exact htree rfl fun _ _=>.int _ _
 | bool b=>cases Zm (h:=M.hp) h;obtain rfl:=hx.bool;exact htree rfl fun _ _=>.bool _
 | str l=>cases Zm (h:=M.hp) h;obtain⟨s,rfl,hs⟩:=hx.str;exact htree rfl fun _ _=>.str _ _ hs
 | ep cs off=>cases Zm (h:=M.hp) h;exact htree rfl fun ok' h1=>hx.ep.keep h1 fun _ _=>rfl
 | _=>exact(Zo (h:=M.hp) h).elim
theorem RsL.head {w:World} {ok:Nat→Prop} {ρ:Nat→Option RB} {x:V} {v:Value} {xs:List V} {vs:List Value} (h:RsL tab w ok ρ (x :: xs) (v :: vs)):Rs tab w ok ρ x v∧RsL tab w ok ρ xs vs:=
 ⟨by simpa using h.2 0 (by simp),by simpa using h.1,fun j hj=>by simpa using h.2 (j+1) (by simpa using hj)⟩
theorem ZeX {E:Entry} {M:Mem} (hM:MemOk tab E M) {R:(Nat→Prop)→V→Value→List Nat→List Nat→Prop} {f:V→RM (V×List Nat)}
  (hf:∀x v y K log,M.Rs tab E x v→f x M.hp=some ((y,K),log)→∃t n,Given E M K [] t n fun ok'=>R ok' y v t n):
  ∀(xs:List V) (vs:List Value) {ys:List V} {K log:List Nat},RsL tab M.w (okS E M) M.ρ xs vs→Zb2 f xs M.hp=some ((ys,K),log)→
   ∃t n,Given E M K [] t n fun ok'=>RqL (R ok') ys vs t n
 | [],[],ys,K,log,_,h=>by
  cases Zm (h:=M.hp) h
  exact⟨[],[], .none fun _ _=>.nil⟩
 | [],_ :: _,_,_,_,hr,_=>by have:=hr.1;simp at this
 | _ :: _,[],_,_,_,hr,_=>by have:=hr.1;simp at this
 | x :: xs,v :: vs,ys,K,log,hr,h=>by
  obtain⟨⟨y,k⟩,l1,b1,l1',h1,h2,h3⟩:=Zj h
  obtain⟨⟨ys',k'⟩,l2,b2,l2',h4,h5,h6⟩:=Zj h2
  cases Zm h5
  cases h3
  cases h6
  obtain⟨t1,n1,g1⟩:=hf _ _ _ _ _ hr.head.1 h1
  obtain⟨t2,n2,g2⟩:=ZeX hM hf xs vs hr.head.2 h4
  exact⟨_,_,g1.append hM g2 fun ok' q1 q2=>.cons q1 q2⟩
theorem ZfW {E:Entry} {M:Mem} (hM:MemOk tab E M) {f:V→RM (V×List Nat)}
  (hf:∀x v y S log,M.Rs tab E x v→f x M.hp=some ((y,S),log)→Given E M [] S [] [] fun ok'=>Rp tab M.w ok' y v):
  ∀(xs:List V) (vs:List Value) {ys:List V} {S log:List Nat},RsL tab M.w (okS E M) M.ρ xs vs→Zb2 f xs M.hp=some ((ys,S),log)→
   Given E M [] S [] [] fun ok'=>vs.length=ys.length∧∀j,j<ys.length→Rp tab M.w ok' (ys.getD j .dead) (vs.getD j undef)
 | [],[],ys,S,log,_,h=>by
  cases Zm (h:=M.hp) h
  exact .none fun _ _=>⟨rfl,by simp⟩
 | [],_ :: _,_,_,_,hr,_=>by have:=hr.1;simp at this
 | _ :: _,[],_,_,_,hr,_=>by have:=hr.1;simp at this
 | x :: xs,v :: vs,ys,S,log,hr,h=>by
  obtain⟨⟨y,k⟩,l1,b1,l1',h1,h2,h3⟩:=Zj h
  obtain⟨⟨ys',k'⟩,l2,b2,l2',h4,h5,h6⟩:=Zj h2
  cases Zm h5
  cases h3
  cases h6
  have g1:=hf _ _ _ _ _ hr.head.1 h1
  have g2:=ZfW hM hf xs vs hr.head.2 h4
  refine(g1.append hM g2 (Q:=fun ok'=>(v :: vs).length=(y :: ys').length∧∀j,j<(y :: ys').length→Rp tab M.w ok' ((y :: ys').getD j .dead) ((v :: vs).getD j undef)) fun ok' q1 q2=>⟨by simp[q2.1],fun j hj=>?_⟩)
  cases j with
  | zero=>simpa using q1
  | succ j=>simpa using q2.2 j (by simpa using hj)
theorem ZeY {E:Entry} {M:Mem} (hM:MemOk tab E M) {mkv:TypeId→List V→V} (hmk:mkv = .nb∨mkv = .rf) {x y:V} {v:Value} {K log:List Nat} (hx:M.Rs tab E x v)
  (h:Zdh mkv x M.hp=some ((y,K),log)):∃t n,Given E M K [] t n fun ok'=>Rq2 tab M.w ok' y v t n:=by
 have hother:Zb3 x M.hp=some ((y,K),log)→∃t n,Given E M K [] t n fun ok'=>Rq2 tab M.w ok' y v t n:=fun h=>by
  obtain⟨t,n,g⟩:=ZeW hM hx h
  exact⟨t,n,g.mono fun ok' q=>.one q⟩
 cases x with
 | bp id off=>
  cases off with
  | succ off=>exact(Zo (h:=M.hp) h).elim
  | zero=>
   obtain⟨blk,l1,b1,l1',h6,h7,h8⟩:=Zj h
   cases h8
   obtain⟨h6,-⟩:=ZaH h6
   cases blk with
   | row T own els=>exact(Zo h7).elim
   | drow _ _=>exact(Zo h7).elim
   | hrow _ _ _ _ _=>exact(Zo h7).elim
   | grow _ _=>exact(Zo h7).elim
   | box T cs=>
    obtain⟨⟨ys,K'⟩,l2,b2,l2',h9,h10,h11⟩:=Zj h7
    cases Zm h10
    cases h11
    obtain⟨g,c,TT,e1,e2,e3,e4,e5,e6⟩:=hM.blocks id _ h6
    have hv:v = .pointer (some ⟨g,0,none⟩):=by
     cases hx with
     | tree hx=>cases hx
     | bp _ _ g' hg'=>rw[e1] at hg';cases hg';rfl
    subst hv
    obtain⟨t,n,gv⟩:=ZeX hM (R:=fun ok'=>Rq1 tab M.w ok') (f:=Zb3) (fun x v y K log hx h=>ZeW hM hx h) cs c.toList
     ⟨by simp[e3],fun j hj=>by rw[Zbj];exact e4 j hj⟩ h9
    have g0:Given E M [id] [] [g] [] fun ok'=>True:=
     ⟨fun g' hg'=>⟨id,by simp,by simp at hg';rw[e5];simp[hg']⟩,by simp,by simp,fun _ _ _ _ _=>trivial⟩
    refine⟨g :: t,n,((g0.append hM gv (fun ok' _ q=>q)).mono (fun ok' q=>?_):Given E M ([id]++K') ([]++[]) ([g]++t) ([]++n) _)⟩
    rcases hmk with rfl | rfl
    ·exact .nb q e2
    ·exact .rf q e2
 | _=>exact hother h
theorem Zlz {E:Entry} {M:Mem} (hM:MemOk tab E M) {x y:V} {v:Value} {K log:List Nat} (hx:M.Rs tab E x v) (h:give x M.hp=some ((y,K),log)):
  ∃t n,Given E M K [] t n fun ok'=>Rq2 tab M.w ok' y v t n:=by
 cases x with
 | agg cs=>
  have h:RM.bind (Zb2 Zb3 cs) (fun r=>RM.ret (V.agg r.1,r.2)) M.hp=some ((y,K),log):=h
  obtain⟨⟨ys,K'⟩,l2,b2,l2',h9,h10,h11⟩:=Zj h
  cases Zm h10
  cases h11
  obtain⟨vals,rfl,hl,hj⟩:=hx.agg_inv
  obtain⟨t,n,g⟩:=ZeX hM (R:=fun ok'=>Rq1 tab M.w ok') (f:=Zb3) (fun x v y K log hx h=>ZeW hM hx h) cs vals ⟨hl,hj⟩ h9
  exact⟨t,n,g.mono fun ok' q=>.agg q⟩
 | _=>exact ZeY hM (.inl rfl) hx h
theorem Zmt {E:Entry} {M:Mem} (hM:MemOk tab E M) {x y:V} {v:Value} {K log:List Nat} (hx:M.Rs tab E x v) (h:Zoh x M.hp=some ((y,K),log)):
  ∃t n,Given E M K [] t n fun ok'=>Rq3 tab M.w ok' y v t n:=by
 have hother:give x M.hp=some ((y,K),log)→∃t n,Given E M K [] t n fun ok'=>Rq3 tab M.w ok' y v t n:=fun h=>by
  obtain⟨t,n,g⟩:=Zlz hM hx h
  exact⟨t,n,g.mono fun ok' q=>.one q⟩
 cases x with
 | tup cs=>
  have h:RM.bind (Zb2 give cs) (fun r=>RM.ret (V.tup r.1,r.2)) M.hp=some ((y,K),log):=h
  obtain⟨⟨ys,K'⟩,l2,b2,l2',h9,h10,h11⟩:=Zj h
  cases Zm h10
  cases h11
  obtain⟨vals,rfl,hl,hj⟩:=hx.tup_inv
  obtain⟨t,n,g⟩:=ZeX hM (R:=fun ok'=>Rq2 tab M.w ok') (f:=give) (fun x v y K log hx h=>Zlz hM hx h) cs vals ⟨hl,hj⟩ h9
  exact⟨t,n,g.mono fun ok' q=>.tup q⟩
 | _=>exact hother h
theorem Zig {E:Entry} {M:Mem} (hM:MemOk tab E M) {x y:V} {v:Value} {S log:List Nat} (hx:M.Rs tab E x v) (h:ZdO x M.hp=some ((y,S),log)):
  Given E M [] S [] [] fun ok'=>Rp tab M.w ok' y v:=by
 cases x with
 | bp id off=>
  obtain⟨blk,l1,b1,l1',h6,h7,h8⟩:=Zj h
  cases h8
  obtain⟨h6,-⟩:=ZaH h6
  cases blk with
  | row T own els=>exact(Zo h7).elim
  | drow _ _=>exact(Zo h7).elim
  | hrow _ _ _ _ _=>exact(Zo h7).elim
  | grow _ _=>exact(Zo h7).elim
  | box T cs=>
   obtain⟨⟨ys,S'⟩,l2,b2,l2',h9,h10,h11⟩:=Zj h7
   cases Zm h10
   cases h11
   obtain⟨g,c,TT,e1,e2,e3,e4,e5,e6⟩:=hM.blocks id _ h6
   have hv:v = .pointer (some ⟨g,off,none⟩):=by
    cases hx with
    | tree hx=>cases hx
    | bp _ _ g' hg'=>rw[e1] at hg';cases hg';rfl
   subst hv
   have gv:=ZfW hM (f:=ZdW) (fun x v y S log hx h=>Zhx hM hx h) cs c.toList ⟨by simp[e3],fun j hj=>by rw[Zbj];exact e4 j hj⟩ h9
   refine⟨by simp,by simp,by simp,fun _ ok' h1 h2 h3=>?_⟩
   obtain⟨q1,q2⟩:=gv.is List.nodup_nil ok' h1 (by simp) fun k hk=>h3 k (List.mem_cons_of_mem _ hk)
   have:=Rp.ep (tab:=tab) (w:=M.w) (ok:=ok') ys off g 0 (fun j=>c.getD j undef) (h3 id (by simp) g (by rw[e5];simp)) (fun j hj=>?_) fun j hj=>by have:=q2 j hj;rw[Zbj] at this;exact this
   ·rw[Nat.zero_add] at this;exact this
   ·have hj':j<c.size:=by rw[←Array.length_toList,q1];exact hj
    rw[Nat.zero_add,cell_of_row M.w g j c TT (0,0) e2]
    simp[hj']
 | ep cs off=>cases Zm (h:=M.hp) h;exact .none fun ok' h1=>hx.ep.keep h1 fun _ _=>rfl
 | _=>exact(Zo (h:=M.hp) h).elim
theorem ZlA {E:Entry} {M:Mem} (hM:MemOk tab E M) {x y:V} {v:Value} {S log:List Nat} (hx:M.Rs tab E x v) (h:ZfJ x M.hp=some ((y,S),log)):
  Given E M [] S [] [] fun ok'=>Rp tab M.w ok' y v:=by
 cases x with
 | agg cs=>
  have h:RM.bind (Zb2 ZdW cs) (fun r=>RM.ret (V.agg r.1,r.2)) M.hp=some ((y,S),log):=h
  obtain⟨⟨ys,S'⟩,l2,b2,l2',h9,h10,h11⟩:=Zj h
  cases Zm h10
  cases h11
  obtain⟨vals,rfl,hl,hj⟩:=hx.agg_inv
  exact(ZfW hM (f:=ZdW) (fun x v y S log hx h=>Zhx hM hx h) cs vals ⟨hl,hj⟩ h9).mono fun ok' q=>.agg _ _ q.1 q.2
 | fn f caps=>
  have h:RM.bind (Zb2 ZdO caps) (fun r=>RM.ret (V.fn f r.1,r.2)) M.hp=some ((y,S),log):=h
  obtain⟨⟨ys,S'⟩,l2,b2,l2',h9,h10,h11⟩:=Zj h
  cases Zm h10
  cases h11
  obtain⟨vals,rfl,hl,hj⟩:=hx.fn_inv
  exact(ZfW hM (f:=ZdO) (fun x v y S log hx h=>Zig hM hx h) caps vals ⟨hl,hj⟩ h9).mono fun ok' q=>.fn _ _ _ q.1 q.2
 | _=>exact Zhx hM hx h
end
end Go.Eng
namespace Go.Eng
section
variable {P:Program} {tab:Tab}
def ZaP:List V→List Value→List (V×Value)
 | .rr T o l :: xs,v :: vs=>(.rr T o l,v) :: ZaP xs vs
 | .dr T l :: xs,v :: vs=>(.dr T l,v) :: ZaP xs vs
 | _ :: xs,_ :: vs=>ZaP xs vs
 | _,_=>[]
def Zcc:V→Value→List (V×Value)
 | .rf T cs,v=>[(.rf T cs,v)]
 | .ro T _ cs, .pointer (some a)=>[(.rf T cs, .pointer (some ⟨a.block,0,none⟩))]
 | .rr T o l,v=>[(.rr T o l,v)]
 | .dr T l,v=>[(.dr T l,v)]
 | .agg cs, .agg vs=>ZaP cs vs.toList
 | _,_=>[]
def Zbs:List V→List Value→List (V×Value)
 | x :: xs,v :: vs=>Zcc x v++Zbs xs vs
 | _,_=>[]
def outOk0:V→V→Prop
 | .rf _ _, .rf _ _=>True
 | .rr T _ l, .rr T' _ l'=>T'=T∧l'.length=l.length
 | .dr T l, .dr T' l'=>T'=T∧l'.length=l.length
 | _,_=>False
def outOk (p y:V):Prop:=match y with
 | .dead=>True
 | y=>outOk0 p y
inductive OutL (R:V→Value→List Nat→List Nat→Prop):List (V×Value)→List V→List Nat→List Nat→Prop where
 | nil:OutL R [] [] [] []
 | cons {p:V×Value} {y:V} {t n:List Nat} {ps:List (V×Value)} {ys:List V} {ts ns:List Nat}:outOk p.1 y→R y p.2 t n→OutL R ps ys ts ns→OutL R (p :: ps) (y :: ys) (t++ts) (n++ns)
theorem OutL.mono {R R':V→Value→List Nat→List Nat→Prop} {ps:List (V×Value)} {ys:List V} {t n:List Nat} (h:∀y∈ys,∀v t n,R y v t n→R' y v t n) (hr:OutL R ps ys t n):OutL R' ps ys t n:=by
 induction hr with
 | nil=>exact .nil
 | cons h1 h2 _ ih=>exact .cons h1 (h _ (by simp) _ _ _ h2) (ih fun y hy=>h y (by simp[hy]))
def Zkl (tab:Tab) (w:World) (ok:Nat→Prop) (args:List V) (vals:List Value) (t n:List Nat) (r:V×List V) (val:Value) (w':World):Prop:=
 ∃rt rn ot on,
  Rq3 tab w' (fun g=>(ok g∨g∈t++n∨w.heap.size≤g)∧g<w'.heap.size∧g∉ot++rt) r.1 val rt rn∧
  OutL (Rq2 tab w' (fun g=>(ok g∨g∈t++n∨w.heap.size≤g)∧g<w'.heap.size∧g∉ot++rt)) (Zbs args vals) r.2 ot on∧
  ((ot++rt)++(on++rn)).Nodup∧(∀g∈ot++rt,g∈t∨w.heap.size≤g)∧(∀g∈on++rn,g∈t++n∨w.heap.size≤g)∧(∀g∈(ot++rt)++(on++rn),g<w'.heap.size)∧
  KeptBut t w w'
def SumOk (P:Program) (tab:Tab) (f:FuncId) (args:List V) (r:V×List V):Prop:=
 ∀(w:World) (ok:Nat→Prop) (vals:List Value) (t n:List Nat),RqL (Rq2 tab w ok) args vals t n→(t++n).Nodup→(∀g,ok g→g<w.heap.size∧g∉t)→(∀g∈t++n,g<w.heap.size)→
  Calls P f vals.toArray w fun e w'=>∃val,e = .returned val∧Zkl tab w ok args vals t n r val w'
def Zfy (P:Program) (f:FuncId):Prop:=∃fn,P.funcs[f]? = some fn∧(fn.name == "runtime.NumGoroutine")=false∧fn.body.isNone=false
def Zbk (P:Program) (tab:Tab) (sums:Sums):Prop:=∀f args r,sums f args=some (true,r)→Zfy P f∧SumOk P tab f args r
def Zgh (tab:Tab) (M:Mem) (p:V×Value) (id:Nat):Prop:=
 match p.1 with
 | .rf _ _=>∃g,M.ρ id=some (.box g)∧p.2 = .pointer (some ⟨g,0,none⟩)
 | .rr T _ l=>∃ty,tab T=some ty∧M.ρ id=some (.row T ty.kinds.length l.length p.2)
 | .dr T l=>∃ty,tab T=some ty∧M.ρ id=some (.row T ty.kinds.length l.length p.2)
 | _=>False
inductive LentL (tab:Tab) (M:Mem):List (V×Value)→List Nat→Prop where
 | nil:LentL tab M [] []
 | cons {p:V×Value} {id:Nat} {ps:List (V×Value)} {ids:List Nat}:Zgh tab M p id→LentL tab M ps ids→LentL tab M (p :: ps) (id :: ids)
theorem LentL.append {M:Mem} {ps qs:List (V×Value)} {is js:List Nat} (h:LentL tab M ps is) (k:LentL tab M qs js):LentL tab M (ps++qs) (is++js):=by
 induction h with
 | nil=>exact k
 | cons h1 _ ih=>exact .cons h1 ih
def Zbh:V→Bool
 | .rr ..=>false
 | .dr ..=>false
 | .rf ..=>false
 | .ro ..=>false
 | .nb ..=>false
 | .tup _=>false
 | .agg _=>false
 | _=>true
theorem Zjf {x y:V} {S log:List Nat} {h:ZaG} (e:ZdW x h=some ((y,S),log)):Zbh y=true:=by
 cases x with
 | sl id T off len=>
  obtain⟨blk,l1,b1,l1',h6,h7,h8⟩:=Zj e
  cases h8
  cases blk with
  | box T cs=>exact(Zo h7).elim
  | drow T' els=>cases Zm h7;rfl
  | hrow _ _ _ _ _=>exact(Zo h7).elim
  | grow _ _=>exact(Zo h7).elim
  | row T' own' els=>cases Zm h7;rfl
 | inl T l=>cases Zm (h:=h) e;rfl
 | nil T=>cases Zm (h:=h) e;rfl
 | int k n=>cases Zm (h:=h) e;rfl
 | bool b=>cases Zm (h:=h) e;rfl
 | str l=>cases Zm (h:=h) e;rfl
 | ep cs off=>cases Zm (h:=h) e;rfl
 | _=>exact(Zo (h:=h) e).elim
theorem Zjg {h:ZaG}:∀{xs ys:List V} {S log:List Nat},Zb2 ZdW xs h=some ((ys,S),log)→∀y∈ys,Zbh y=true
 | [],ys,S,log,e=>by cases Zm (h:=h) e;simp
 | x :: xs,ys,S,log,e=>by
  obtain⟨⟨y,k⟩,l1,b1,l1',h1,h2,h3⟩:=Zj e
  obtain⟨⟨ys',k'⟩,l2,b2,l2',h4,h5,h6⟩:=Zj h2
  cases Zm h5
  cases h3
  cases h6
  intro z hz
  rcases List.mem_cons.1 hz with rfl | hz
  ·exact Zjf h1
  ·exact Zjg h4 z hz
theorem Zih:∀{ys:List V} (vs:List Value),(∀y∈ys,Zbh y=true)→ZaP ys vs=[]
 | [],_,_=>by simp[ZaP]
 | y :: ys,[],_=>by cases y <;> simp[ZaP]
 | y :: ys,v :: vs,h=>by
  have h0:=h y (by simp)
  have:=Zih vs fun z hz=>h z (List.mem_cons_of_mem _ hz)
  cases y <;> first | (simp[Zbh] at h0;done) | (simpa [ZaP] using this)
theorem Zjh {y:V} (v:Value) (h:Zbh y=true):Zcc y v=[]:=by
 cases y <;> first | (simp[Zbh] at h;done) | rfl
def ZfX:V→Bool
 | .rr ..=>true
 | .dr ..=>true
 | _=>false
theorem Zkm {E:Entry} {M:Mem} (hM:MemOk tab E M) {x y:V} {v:Value} {K log:List Nat} (hx:M.Rs tab E x v) (h:Zb3 x M.hp=some ((y,K),log)):
  (Zbh y=true∧Zdf [x]=[])∨∃id,ZfX y=true∧Zdf [x]=[id]∧id∈K∧Zgh tab M (y,v) id:=by
 cases x with
 | sl id T off len=>
  obtain⟨blk,l1,b1,l1',h6,h7,h8⟩:=Zj h
  cases h8
  obtain⟨h6,-⟩:=ZaH h6
  cases blk with
  | box T cs=>exact(Zo h7).elim
  | drow T' els=>
   by_cases hfull:off=0∧len=none
   ·obtain⟨rfl,rfl⟩:=hfull
    cases Zm h7
    obtain⟨rfl,ty',a,a',cap,m,q1,q2,q3,q4,q5,q6,q7,rfl,q8,q9⟩:=hM.sl' hx h6 rfl
    obtain rfl:=q7 rfl
    simp only[Option.getD_none,Nat.sub_zero] at q4
    subst q4
    exact .inr ⟨id,rfl,rfl,by simp,ty',q1,q2⟩
   ·have h7':(RM.fail:RM (V×List Nat)) M.hp=some ((y,K),l1'):=by
     rw[←h7]
     dsimp only
     split
     ·exact absurd ⟨rfl,rfl⟩ hfull
     ·rfl
    exact(Zo h7').elim
  | hrow _ _ _ _ _=>exact(Zo h7).elim
  | grow _ _=>exact(Zo h7).elim
  | row T' own' els=>
   by_cases hfull:off=0∧len=none
   ·obtain⟨rfl,rfl⟩:=hfull
    cases Zm h7
    obtain rfl:=hM.sl_ty hx h6
    obtain⟨ty',a,a',cap,m,q1,q2,q3,q4,q5,q6,q7,rfl,q8,q9⟩:=hM.sl hx h6
    obtain rfl:=q7 rfl
    simp only[Option.getD_none,Nat.sub_zero] at q4
    subst q4
    exact .inr ⟨id,rfl,rfl,by simp,ty',q1,q2⟩
   ·have h7':RM.ret (V.inl T (cut els off len),[id]) M.hp=some ((y,K),l1'):=by
     rw[←h7]
     dsimp only
     split
     ·exact absurd ⟨rfl,rfl⟩ hfull
     ·rfl
    cases Zm h7'
    refine .inl ⟨rfl,?_⟩
    simp only[Zdf,List.append_nil]
    split
    ·exact absurd ⟨rfl,rfl⟩ hfull
    ·rfl
 | inl T l=>cases Zm (h:=M.hp) h;exact .inl ⟨rfl,rfl⟩
 | nil T=>cases Zm (h:=M.hp) h;exact .inl ⟨rfl,rfl⟩
 | int k n=>cases Zm (h:=M.hp) h;exact .inl ⟨rfl,rfl⟩
 | bool b=>cases Zm (h:=M.hp) h;exact .inl ⟨rfl,rfl⟩
 | str l=>cases Zm (h:=M.hp) h;exact .inl ⟨rfl,rfl⟩
 | ep cs off=>cases Zm (h:=M.hp) h;exact .inl ⟨rfl,rfl⟩
 | _=>exact(Zo (h:=M.hp) h).elim
theorem ZoQ (x:V) (xs:List V):Zdf (x :: xs)=Zdf [x]++Zdf xs:=by
 cases x <;> simp[Zdf]
theorem Zkn {E:Entry} {M:Mem} (hM:MemOk tab E M):∀(xs:List V) (vs:List Value) {ys:List V} {K log:List Nat},RsL tab M.w (okS E M) M.ρ xs vs→Zb2 Zb3 xs M.hp=some ((ys,K),log)→
  LentL tab M (ZaP ys vs) (Zdf xs)∧∀id∈Zdf xs,id∈K
 | [],[],ys,K,log,_,h=>by
  cases Zm (h:=M.hp) h
  exact⟨.nil,by simp[Zdf]⟩
 | [],_ :: _,_,_,_,hr,_=>by have:=hr.1;simp at this
 | _ :: _,[],_,_,_,hr,_=>by have:=hr.1;simp at this
 | x :: xs,v :: vs,ys,K,log,hr,h=>by
  obtain⟨⟨y,k⟩,l1,b1,l1',h1,h2,h3⟩:=Zj h
  obtain⟨⟨ys',k'⟩,l2,b2,l2',h4,h5,h6⟩:=Zj h2
  cases Zm h5
  cases h3
  cases h6
  obtain⟨ih1,ih2⟩:=Zkn hM xs vs hr.head.2 h4
  rw[ZoQ]
  rcases Zkm hM hr.head.1 h1 with⟨hp,he⟩ | ⟨id,hy,he,hid,hl⟩
  ·rw[he]
   have:ZaP (y :: ys') (v :: vs)=ZaP ys' vs:=by
    cases y <;> first | (simp[Zbh] at hp;done) | rfl
   rw[this]
   exact⟨ih1,fun id hid=>List.mem_append_right _ (ih2 id hid)⟩
  ·rw[he]
   have hcons:ZaP (y :: ys') (v :: vs)=(y,v) :: ZaP ys' vs:=by
    cases y <;> first | (simp[ZfX] at hy;done) | rfl
   refine⟨by rw[hcons];exact .cons hl ih1,fun i hi=>?_⟩
   rcases List.mem_append.1 hi with hi | hi
   ·simp at hi;subst hi;exact List.mem_append_left _ hid
   ·exact List.mem_append_right _ (ih2 i hi)
theorem Zgi {E:Entry} {M:Mem} (hM:MemOk tab E M) {id off:Nat} {y:V} {v:Value} {K log:List Nat} (hx:M.Rs tab E (.bp id off) v) (h:Zdh .rf (.bp id off) M.hp=some ((y,K),log)):
  id∈K∧∃T cs,y = .rf T cs∧Zgh tab M (y,v) id:=by
 cases off with
 | succ off=>exact(Zo (h:=M.hp) h).elim
 | zero=>
  obtain⟨blk,l1,b1,l1',h6,h7,h8⟩:=Zj h
  cases h8
  obtain⟨h6,-⟩:=ZaH h6
  cases blk with
  | row T own els=>exact(Zo h7).elim
  | drow _ _=>exact(Zo h7).elim
  | hrow _ _ _ _ _=>exact(Zo h7).elim
  | grow _ _=>exact(Zo h7).elim
  | box T cs=>
   obtain⟨⟨ys,K'⟩,l2,b2,l2',h9,h10,h11⟩:=Zj h7
   cases Zm h10
   cases h11
   obtain⟨g,c,TT,e1,e2,e3,e4,e5,e6⟩:=hM.blocks id _ h6
   cases hx with
   | tree hx=>cases hx
   | bp _ _ g' hg'=>exact⟨by simp,T,ys,rfl,g',hg',rfl⟩
theorem Zmu {E:Entry} {M:Mem} (hM:MemOk tab E M) {id off:Nat} {y:V} {v:Value} {K log:List Nat} (hx:M.Rs tab E (.bp id off) v) (h:Zg4 id off M.hp=some ((y,K),log)):
  (∃t n,Given E M K [] t n fun ok'=>Rq2 tab M.w ok' y v t n)∧LentL tab M (Zcc y v) [id]∧id∈K:=by
 cases off with
 | zero=>
  obtain⟨hid,T,cs,rfl,hl⟩:=Zgi hM hx h
  exact⟨ZeY hM (.inr rfl) hx h, .cons hl .nil,hid⟩
 | succ off=>
  have h:RM.bind (Zdh .rf (.bp id 0)) (fun a=>RM.ret (inner (off+1) a.1,a.2)) M.hp=some ((y,K),log):=h
  obtain⟨⟨y',k⟩,l1,b1,l1',h5,h6,h7⟩:=Zj h
  cases Zm h6
  cases h7
  obtain⟨g,hr,rfl⟩:∃g,M.ρ id=some (.box g)∧v = .pointer (some ⟨g,off+1,none⟩):=by
   cases hx with
   | tree hx=>cases hx
   | bp _ _ g' hg'=>exact⟨g',hg',rfl⟩
  have hx0:M.Rs tab E (.bp id 0) (.pointer (some ⟨g,0,none⟩)):=.bp id 0 g hr
  obtain⟨hid,T,cs,rfl,hl⟩:=Zgi hM hx0 h5
  obtain⟨t,n,gv⟩:=ZeY hM (.inr rfl) hx0 h5
  refine⟨⟨t,n,gv.mono fun ok' q=>?_⟩, .cons hl .nil,hid⟩
  cases q with
  | one q=>cases q with | tree q=>cases q
  | rf q hg=>exact .ro q hg
theorem Given.tree {E:Entry} {M:Mem} {S:List Nat} {y:V} {v:Value} (g:Given E M [] S [] [] fun ok'=>Rp tab M.w ok' y v):
  ∃t n,Given E M [] S t n fun ok'=>Rq2 tab M.w ok' y v t n:=⟨[],[],g.mono fun _ q=>.one (.tree q)⟩
theorem Zpr {E:Entry} {M:Mem} (hM:MemOk tab E M) {m q:Bool} {x y:V} {v:Value} {K S log:List Nat} (hx:M.Rs tab E x v) (h:argV m q x M.hp=some ((y,K,S),log)):
  (∃t n,Given E M K S t n fun ok'=>Rq2 tab M.w ok' y v t n)∧LentL tab M (Zcc y v) (lent m q x)∧∀id∈lent m q x,id∈K:=by
 have hview:Zbh y=true→lent m q x=[]→K=[]→ZfJ x M.hp=some ((y,S),log)→(∃t n,Given E M K S t n fun ok'=>Rq2 tab M.w ok' y v t n)∧LentL tab M (Zcc y v) (lent m q x)∧∀id∈lent m q x,id∈K:=by
  intro h1 h2 h3 h4
  subst h3
  rw[h2,Zjh v h1]
  exact⟨(ZlA hM hx h4).tree, .nil,by simp⟩
 have hone:(∀cs,x≠.agg cs)→(∀f cs,x≠.fn f cs)→lent m q x=[]→ZdW x=ZfJ x→RM.bind (ZfJ x) (fun a=>RM.ret (a.1,([]:List Nat),a.2)) M.hp=some ((y,K,S),log)→
   (∃t n,Given E M K S t n fun ok'=>Rq2 tab M.w ok' y v t n)∧LentL tab M (Zcc y v) (lent m q x)∧∀id∈lent m q x,id∈K:=by
  intro _ _ h2 h3 h4
  obtain⟨⟨y',k⟩,l1,b1,l1',h5,h6,h7⟩:=Zj h4
  cases Zm h6
  cases h7
  have h5':=h5
  rw[←h3] at h5'
  exact hview (Zjf h5') h2 rfl (by simpa using h5)
 cases x with
 | bp id off=>
  cases q with
  | true=>
   have h:RM.bind (ZdO (.bp id off)) (fun a=>RM.ret (a.1,([]:List Nat),a.2)) M.hp=some ((y,K,S),log):=h
   obtain⟨⟨y',k⟩,l1,b1,l1',h5,h6,h7⟩:=Zj h
   cases Zm h6
   cases h7
   have g:=Zig hM hx h5
   have hp:Zbh y'=true:=by
    obtain⟨blk,l2,b2,l2',k6,k7,k8⟩:=Zj h5
    cases k8
    cases blk with
    | row T own els=>exact(Zo k7).elim
    | drow _ _=>exact(Zo k7).elim
    | hrow _ _ _ _ _=>exact(Zo k7).elim
    | grow _ _=>exact(Zo k7).elim
    | box T cs=>
     obtain⟨⟨ys,k'⟩,l3,b3,l3',k9,k10,k11⟩:=Zj k7
     cases Zm k10
     cases k11
     rfl
   rw[Zjh v hp]
   exact⟨g.tree, .nil,by simp[lent]⟩
  | false=>
   have h:RM.bind (Zg4 id off) (fun a=>RM.ret (a.1,a.2,([]:List Nat))) M.hp=some ((y,K,S),log):=h
   obtain⟨⟨y',k⟩,l1,b1,l1',h5,h6,h7⟩:=Zj h
   cases Zm h6
   cases h7
   obtain⟨a1,a2,a3⟩:=Zmu hM hx h5
   exact⟨a1,a2,by simpa [lent] using a3⟩
 | sl id T off len=>
  by_cases hfull:m=true∧off=0∧len=none
  ·obtain⟨rfl,rfl,rfl⟩:=hfull
   have h:RM.bind (Zb3 (.sl id T 0 none)) (fun a=>RM.ret (a.1,a.2,([]:List Nat))) M.hp=some ((y,K,S),log):=h
   obtain⟨⟨y',k⟩,l1,b1,l1',h5,h6,h7⟩:=Zj h
   cases Zm h6
   cases h7
   obtain⟨t,n,g⟩:=ZeW hM hx h5
   refine⟨⟨t,n,g.mono fun _ q=>.one q⟩,?_⟩
   rcases Zkm hM hx h5 with⟨hp,he⟩ | ⟨i,hy,he,hid,hl⟩
   ·simp[Zdf] at he
   ·simp only[lent]
    rw[he]
    have hone1:Zcc y' v=[(y',v)]:=by cases y' <;> first | (simp[ZfX] at hy;done) | rfl
    exact⟨by rw[hone1];exact .cons hl .nil,by simpa using hid⟩
  ·have hl:lent m q (.sl id T off len)=[]:=by
    cases m with
    | false=>rfl
    | true=>
     simp only[lent,Zdf,List.append_nil]
     split
     ·exact absurd ⟨rfl,rfl,rfl⟩ hfull
     ·rfl
   refine hone (by simp) (by simp) hl rfl ?_
   rw[←h]
   unfold argV
   simp only[]
   split
   ·exact absurd ⟨rfl,rfl,rfl⟩ hfull
   ·rfl
 | agg cs=>
  cases m with
  | true=>
   have h:RM.bind (Zb2 Zb3 cs) (fun r=>RM.ret (V.agg r.1,r.2,([]:List Nat))) M.hp=some ((y,K,S),log):=h
   obtain⟨⟨ys,k⟩,l1,b1,l1',h5,h6,h7⟩:=Zj h
   cases Zm h6
   cases h7
   obtain⟨vals,rfl,hl,hj⟩:=hx.agg_inv
   obtain⟨t,n,g⟩:=ZeX hM (R:=fun ok'=>Rq1 tab M.w ok') (f:=Zb3) (fun x v y K log hx h=>ZeW hM hx h) cs vals ⟨hl,hj⟩ h5
   exact⟨⟨t,n,g.mono fun ok' q=>.agg q⟩,by simpa [Zcc,lent] using Zkn hM cs vals ⟨hl,hj⟩ h5⟩
  | false=>
   have h:RM.bind (ZfJ (.agg cs)) (fun a=>RM.ret (a.1,([]:List Nat),a.2)) M.hp=some ((y,K,S),log):=h
   obtain⟨⟨y',k⟩,l1,b1,l1',h5,h6,h7⟩:=Zj h
   cases Zm h6
   cases h7
   have h5':RM.bind (Zb2 ZdW cs) (fun r=>RM.ret (V.agg r.1,r.2)) M.hp=_:=h5
   obtain⟨⟨ys,k'⟩,l2,b2,l2',h8,h9,h10⟩:=Zj h5'
   cases Zm h9
   cases h10
   obtain⟨vals,rfl,hl,hj⟩:=hx.agg_inv
   refine⟨(ZlA hM hx h5).tree,?_,by simp[lent]⟩
   simp only[Zcc,lent]
   rw[Zih _ (Zjg h8)]
   exact .nil
 | fn f caps=>
  have h:RM.bind (ZfJ (.fn f caps)) (fun a=>RM.ret (a.1,([]:List Nat),a.2)) M.hp=some ((y,K,S),log):=h
  obtain⟨⟨y',k⟩,l1,b1,l1',h5,h6,h7⟩:=Zj h
  cases Zm h6
  cases h7
  have h5':RM.bind (Zb2 ZdO caps) (fun r=>RM.ret (V.fn f r.1,r.2)) M.hp=_:=h5
  obtain⟨⟨ys,k'⟩,l2,b2,l2',h8,h9,h10⟩:=Zj h5'
  cases Zm h9
  cases h10
  exact hview rfl rfl rfl (by simpa using h5)
 | _=>exact hone (by simp) (by simp) rfl rfl h
theorem Zko {E:Entry} {M:Mem} (hM:MemOk tab E M) {m q:Bool}:∀(xs:List V) (vs:List Value) {ys:List V} {K S log:List Nat},RsL tab M.w (okS E M) M.ρ xs vs→
  Zj4 m q xs M.hp=some ((ys,K,S),log)→
  (∃t n,Given E M K S t n fun ok'=>RqL (Rq2 tab M.w ok') ys vs t n)∧LentL tab M (Zbs ys vs) (xs.flatMap (lent m q))∧∀id∈xs.flatMap (lent m q),id∈K
 | [],[],ys,K,S,log,_,h=>by
  cases Zm (h:=M.hp) h
  exact⟨⟨[],[], .none fun _ _=>.nil⟩, .nil,by simp⟩
 | [],_ :: _,_,_,_,_,hr,_=>by have:=hr.1;simp at this
 | _ :: _,[],_,_,_,_,hr,_=>by have:=hr.1;simp at this
 | x :: xs,v :: vs,ys,K,S,log,hr,h=>by
  obtain⟨⟨y,k,s⟩,l1,b1,l1',h1,h2,h3⟩:=Zj h
  obtain⟨⟨ys',k',s'⟩,l2,b2,l2',h4,h5,h6⟩:=Zj h2
  cases Zm h5
  cases h3
  cases h6
  obtain⟨⟨t1,n1,g1⟩,a1,a2⟩:=Zpr hM hr.head.1 h1
  obtain⟨⟨t2,n2,g2⟩,c1,c2⟩:=Zko hM xs vs hr.head.2 h4
  refine⟨⟨_,_,g1.append hM g2 fun ok' q1 q2=>.cons q1 q2⟩,?_,fun id hid=>?_⟩
  ·simp only[Zbs,List.flatMap_cons];exact a1.append c1
  ·simp only[List.flatMap_cons] at hid
   rcases List.mem_append.1 hid with hid | hid
   ·exact List.mem_append_left _ (a2 id hid)
   ·exact List.mem_append_right _ (c2 id hid)
end
end Go.Eng
namespace Go.Eng
section
variable {P:Program} {tab:Tab}
abbrev Us:=List (Nat×Bd)
def Z0:Us→Nat→Option Bd
 | [],_=>none
 | u :: r,i=>if u.1=i then some u.2 else Z0 r i
def Us.blks (us:Us):List (Nat×Option Blk):=us.map fun u=>(u.1,some u.2.blk)
theorem Zdu {us:Us} {i:Nat} {b:Bd} (h:Z0 us i=some b):(i,b)∈us:=by
 induction us with
 | nil=>simp[Z0] at h
 | cons u us ih=>
  obtain⟨k,c⟩:=u
  simp only[Z0] at h
  split at h
  ·cases h;subst_vars;simp
  ·exact List.mem_cons_of_mem _ (ih h)
theorem Zmv {us:Us} (hn:(us.map (·.1)).Nodup) {u:Nat×Bd} (h:u∈us):Z0 us u.1=some u.2:=by
 induction us with
 | nil=>simp at h
 | cons x us ih=>
  simp only[List.map_cons,List.nodup_cons] at hn
  simp only[Z0]
  rcases List.mem_cons.1 h with rfl | h
  ·simp
  ·rw[if_neg,ih hn.2 h]
   intro e
   exact hn.1 (e▸List.mem_map_of_mem h)
theorem lookU_none {us:Us} {i:Nat}:Z0 us i=none↔i∉us.map (·.1):=by
 induction us with
 | nil=>simp[Z0]
 | cons x us ih=>
  simp only[Z0,List.map_cons,List.mem_cons,not_or]
  split
  ·subst_vars;simp
  ·rw[ih];constructor
   ·exact fun h=>⟨fun e=>by simp_all,h⟩
   ·exact fun h=>h.2
theorem Zji (hp:ZaG) (a b:List (Nat×Option Blk)):ZW hp (a++b)=ZW (ZW hp a) b:=by
 induction a generalizing hp with
 | nil=>rfl
 | cons x a ih=>exact ih _
theorem ZnO (hp:ZaG) (K:List Nat):ZW hp (ended K)=fun i=>if i∈K then some none else hp i:=by
 induction K generalizing hp with
 | nil=>simp[ended,ZW]
 | cons k K ih=>
  simp only[ended,List.map_cons,ZW] at ih ⊢
  rw[ih]
  funext i
  by_cases h1:i∈K <;> by_cases h2:i=k <;> simp[h1,h2]
theorem updH_us (hp:ZaG) (us:Us) (hn:(us.map (·.1)).Nodup):ZW hp us.blks=fun i=>match Z0 us i with | some b=>some (some b.blk) | none=>hp i:=by
 induction us generalizing hp with
 | nil=>rfl
 | cons u us ih=>
  simp only[List.map_cons,List.nodup_cons] at hn
  simp only[Us.blks,List.map_cons,ZW] at ih ⊢
  rw[ih _ hn.2]
  funext i
  simp only[Z0]
  by_cases e:u.1=i
  ·subst e
   simp[lookU_none.2 hn.1]
  ·rw[if_neg e]
   have e':¬i=u.1:=fun h=>e h.symm
   simp only[if_neg e']
def numB (nid:Nat):List Bd→Us
 | []=>[]
 | b :: r=>(nid,b) :: numB (nid+1) r
theorem Zps (nid:Nat) (Bs:List Bd):ZcU nid (Bs.map (·.blk))=Us.blks (numB nid Bs):=by
 induction Bs generalizing nid with
 | nil=>rfl
 | cons b Bs ih=>simp[ZcU,numB,Us.blks,ih]
theorem numB_t (nid:Nat) (Bs:List Bd):(numB nid Bs).flatMap (·.2.t)=Bs.flatMap (·.t):=by
 induction Bs generalizing nid with
 | nil=>rfl
 | cons b Bs ih=>simp[numB,ih]
theorem numB_n (nid:Nat) (Bs:List Bd):(numB nid Bs).flatMap (·.2.n)=Bs.flatMap (·.n):=by
 induction Bs generalizing nid with
 | nil=>rfl
 | cons b Bs ih=>simp[numB,ih]
theorem Zd7 {nid:Nat} {Bs:List Bd}:∀u∈numB nid Bs,nid≤u.1∧u.1<nid+Bs.length∧u.2∈Bs:=by
 induction Bs generalizing nid with
 | nil=>simp[numB]
 | cons b Bs ih=>
  intro u hu
  simp only[numB,List.mem_cons] at hu
  rcases hu with rfl | hu
  ·simp
  ·obtain⟨h1,h2,h3⟩:=ih u hu
   simp;exact⟨by omega,by omega, .inr h3⟩
theorem Zhy (nid:Nat) (Bs:List Bd):((numB nid Bs).map (·.1)).Nodup:=by
 induction Bs generalizing nid with
 | nil=>simp[numB]
 | cons b Bs ih=>
  simp only[numB,List.map_cons,List.nodup_cons]
  refine⟨fun h=>?_,ih _⟩
  obtain⟨u,hu,e⟩:=List.mem_map.1 h
  have:=(Zd7 u hu).1
  omega
theorem numB_get {nid:Nat} {Bs:List Bd} {k:Nat} {b:Bd} (h:Bs[k]? = some b):(nid+k,b)∈numB nid Bs:=by
 induction Bs generalizing nid k with
 | nil=>simp at h
 | cons c Bs ih=>
  cases k with
  | zero=>simp at h;subst h;simp[numB]
  | succ k=>
   have:=ih (nid:=nid+1) (k:=k) (by simpa using h)
   simp only[numB,List.mem_cons]
   exact .inr (by rw[show nid+(k+1)=nid+1+k from by omega];exact this)
theorem Adopted.numB {w:World} {ok:Nat→Prop} {nid:Nat} {bs:List Blk} {t n:List Nat} {S:(Nat→Option RB)→Prop} (h:Adopted tab w ok nid bs t n S):
  ∃Bs:List Bd,Bs.length=bs.length∧ZcU nid bs=Us.blks (numB nid Bs)∧t=(numB nid Bs).flatMap (·.2.t)∧n=(Eng.numB nid Bs).flatMap (·.2.n)∧
   ∀ρ:Nat→Option RB,(∀u∈Eng.numB nid Bs,ρ u.1=some u.2.rb)→S ρ∧∀u∈Eng.numB nid Bs,BlkIs tab w ok ρ u.2.blk (some u.2.rb) u.2.t u.2.n:=by
 obtain⟨Bs,rfl,rfl,rfl,h⟩:=h
 refine⟨Bs,by simp,Zps _ _,(numB_t _ _).symm,(numB_n _ _).symm,fun ρ hρ=>?_⟩
 obtain⟨h1,h2⟩:=h ρ fun k b hb=>hρ _ (numB_get hb)
 exact⟨h1,fun u hu=>h2 _ (Zd7 u hu).2.2⟩
theorem Zhz {M:Mem} {T:TypeId} {cs:List V} {v:Value} {id:Nat} (h:Zgh tab M (.rf T cs,v) id):∃g,M.ρ id=some (.box g)∧v = .pointer (some ⟨g,0,none⟩):=h
theorem ZlY {w:World} {ok:Nat→Prop} {M:Mem} {ps:List (V×Value)} {ids:List Nat} (hl:LentL tab M ps ids):∀{outs:List V} {to no:List Nat} {nid:Nat} {q:List (Nat×Option Blk)×Nat},
  OutL (Rq2 tab w ok) ps outs to no→Zcf nid ids outs=some q→
  ∃us:Us,q.1=us.blks∧to=us.flatMap (·.2.t)∧no=us.flatMap (·.2.n)∧nid≤q.2∧
   (∀u∈us,(u.1∈ids∧M.ρ u.1=some u.2.rb)∨(nid≤u.1∧u.1<q.2))∧
   (ids.Nodup→(∀i∈ids,i<nid)→(us.map (·.1)).Nodup)∧
   ∀ρ:Nat→Option RB,(∀u∈us,ρ u.1=some u.2.rb)→∀u∈us,BlkIs tab w ok ρ u.2.blk (some u.2.rb) u.2.t u.2.n:=by
 induction hl with
 | nil=>
  intro outs to no nid q ho h
  cases ho
  simp only[Zcf,Option.some.injEq] at h
  subst h
  exact⟨[],rfl,rfl,rfl,Nat.le_refl _,by simp,by simp,by simp⟩
 | @cons p id ps ids hp _ ih=>
  intro outs to no nid q ho h
  cases ho with
  | @cons _ y t n _ ys ts ns h1 h2 h3=>
  obtain⟨px,pv⟩:=p
  simp only[] at h2
  cases y with
  | rf T cs=>
   cases px <;> try (exact h1.elim)
   obtain⟨g,hg,rfl⟩:=Zhz hp
   simp only[Zcf,Option.map_eq_some_iff] at h
   obtain⟨q',hq,rfl⟩:=h
   obtain⟨us,e1,e2,e3,e4,e5,e6,e7⟩:=ih h3 hq
   cases h2 with
   | one h2=>cases h2 with | tree h2=>cases h2
   | @rf _ _ c TT _ t' n' hr hgb=>
   obtain⟨Bs,b0,b1,b2,b3,b4⟩:=(Zes (R:=Rq1 tab w ok) (f:=ZaX) (fun x v t n nid h=>Zc8 h nid) hr nid).numB
   refine⟨(id,⟨.box T (ZaC ZaX nid cs).1, .box g,[g],[]⟩) :: (numB nid Bs++us),?_,?_,?_,by omega,fun u hu=>?_,fun hn hlt=>?_,fun ρ hρ u hu=>?_⟩
   ·simp only[Us.blks,List.map_cons,List.map_append,List.cons_append] at b1 e1 ⊢
    rw[b1,e1]
   ·simp[b2,e2]
   ·simp[b3,e3]
   ·rcases List.mem_cons.1 hu with rfl | hu
    ·exact .inl ⟨by simp,hg⟩
    ·rcases List.mem_append.1 hu with hu | hu
     ·have:=Zd7 u hu
      exact .inr ⟨this.1,by omega⟩
     ·rcases e5 u hu with⟨k1,k2⟩ | ⟨k1,k2⟩
      ·exact .inl ⟨by simp[k1],k2⟩
      ·exact .inr ⟨by omega,k2⟩
   ·rw[List.nodup_cons] at hn
    simp only[List.map_cons,List.map_append]
    rw[List.nodup_cons,List.nodup_append]
    have hid:id<nid:=hlt id (by simp)
    refine⟨fun hm=>?_,Zhy _ _,e6 hn.2 (fun i hi=>by have:=hlt i (by simp[hi]);omega),fun a ha b hb e=>?_⟩
    ·rcases List.mem_append.1 hm with hm | hm
     ·obtain⟨u,hu,e⟩:=List.mem_map.1 hm
      have:=(Zd7 u hu).1;omega
     ·obtain⟨u,hu,e⟩:=List.mem_map.1 hm
      rcases e5 u hu with⟨k1,-⟩ | ⟨k1,-⟩
      ·exact hn.1 (e▸k1)
      ·omega
    ·subst e
     obtain⟨u,hu,e⟩:=List.mem_map.1 ha
     obtain⟨u',hu',e'⟩:=List.mem_map.1 hb
     have k:=Zd7 u hu
     rcases e5 u' hu' with⟨k1,-⟩ | ⟨k1,-⟩
     ·have:=hlt u'.1 (by simp[k1]);omega
     ·omega
   ·obtain⟨⟨s1,s2⟩,hb⟩:=b4 ρ fun u hu=>hρ u (by simp[hu])
    rcases List.mem_cons.1 hu with rfl | hu
    ·exact⟨g,c,TT,rfl,hgb,by simpa using s1,fun j hj=>by have:=s2 j hj;rw[Zbj] at this;exact this,rfl,rfl⟩
    ·rcases List.mem_append.1 hu with hu | hu
     ·exact hb u hu
     ·exact e7 ρ (fun u hu=>hρ u (by simp[hu])) u hu
  | rr T own l=>
   cases px <;> try (exact h1.elim)
   rename_i T0 own0 l0
   obtain⟨hT,hlen⟩:=(h1:T=T0∧l.length=l0.length)
   subst hT
   obtain⟨ty,hty,hrho⟩:=(hp:∃ty,tab T=some ty∧M.ρ id=some (.row T ty.kinds.length l0.length pv))
   simp only[Zcf,Option.map_eq_some_iff] at h
   obtain⟨q',hq,rfl⟩:=h
   obtain⟨us,e1,e2,e3,e4,e5,e6,e7⟩:=ih h3 hq
   cases h2 with
   | one h2=>cases h2 with
    | tree h2=>cases h2
    | row hrow=>
    rw[←hlen] at hrho
    refine⟨(id,⟨.row T own l, .row T ty.kinds.length l.length pv,Zr pv,n⟩) :: us,?_,?_,?_,by omega,fun u hu=>?_,fun hn hlt=>?_,fun ρ hρ u hu=>?_⟩
    ·simp only[Us.blks,List.map_cons] at e1 ⊢
     rw[e1]
    ·simp[e2]
    ·simp[e3]
    ·rcases List.mem_cons.1 hu with rfl | hu
     ·exact .inl ⟨by simp,hrho⟩
     ·rcases e5 u hu with⟨k1,k2⟩ | ⟨k1,k2⟩
      ·exact .inl ⟨by simp[k1],k2⟩
      ·exact .inr ⟨by omega,k2⟩
    ·rw[List.nodup_cons] at hn
     simp only[List.map_cons]
     rw[List.nodup_cons]
     have hid:id<nid:=hlt id (by simp)
     refine⟨fun hm=>?_,e6 hn.2 (fun i hi=>by have:=hlt i (by simp[hi]);omega)⟩
     obtain⟨u,hu,e⟩:=List.mem_map.1 hm
     rcases e5 u hu with⟨k1,-⟩ | ⟨k1,-⟩
     ·exact hn.1 (e▸k1)
     ·omega
    ·rcases List.mem_cons.1 hu with rfl | hu
     ·exact⟨ty,pv,hty,rfl,hrow,rfl⟩
     ·exact e7 ρ (fun u hu=>hρ u (by simp[hu])) u hu
  | dr T l=>
   cases px <;> try (exact h1.elim)
   rename_i T0 l0
   obtain⟨hT,hlen⟩:=(h1:T=T0∧l.length=l0.length)
   subst hT
   obtain⟨ty,hty,hrho⟩:=(hp:∃ty,tab T=some ty∧M.ρ id=some (.row T ty.kinds.length l0.length pv))
   simp only[Zcf,Option.map_eq_some_iff] at h
   obtain⟨q',hq,rfl⟩:=h
   obtain⟨us,e1,e2,e3,e4,e5,e6,e7⟩:=ih h3 hq
   cases h2 with
   | one h2=>cases h2 with
    | tree h2=>cases h2
    | @deep _ _ _ n0 hrow=>
    rw[←hlen] at hrho
    refine⟨(id,⟨.drow T l, .row T ty.kinds.length l.length pv,Zr pv++n0,[]⟩) :: us,?_,?_,?_,by omega,fun u hu=>?_,fun hn hlt=>?_,fun ρ hρ u hu=>?_⟩
    ·simp only[Us.blks,List.map_cons] at e1 ⊢
     rw[e1]
    ·simp[e2]
    ·simp[e3]
    ·rcases List.mem_cons.1 hu with rfl | hu
     ·exact .inl ⟨by simp,hrho⟩
     ·rcases e5 u hu with⟨k1,k2⟩ | ⟨k1,k2⟩
      ·exact .inl ⟨by simp[k1],k2⟩
      ·exact .inr ⟨by omega,k2⟩
    ·rw[List.nodup_cons] at hn
     simp only[List.map_cons]
     rw[List.nodup_cons]
     have hid:id<nid:=hlt id (by simp)
     refine⟨fun hm=>?_,e6 hn.2 (fun i hi=>by have:=hlt i (by simp[hi]);omega)⟩
     obtain⟨u,hu,e⟩:=List.mem_map.1 hm
     rcases e5 u hu with⟨k1,-⟩ | ⟨k1,-⟩
     ·exact hn.1 (e▸k1)
     ·omega
    ·rcases List.mem_cons.1 hu with rfl | hu
     ·exact⟨ty,pv,n0,hty,rfl,hrow,rfl,rfl⟩
     ·exact e7 ρ (fun u hu=>hρ u (by simp[hu])) u hu
  | dead=>
   simp only[Zcf] at h
   obtain⟨us,e1,e2,e3,e4,e5,e6,e7⟩:=ih h3 h
   cases h2 with | one h2=>cases h2 with | tree h2=>
   refine⟨us,e1,by simpa using e2,by simpa using e3,e4,fun u hu=>?_,fun hn hlt=>e6 (List.nodup_cons.1 hn).2 fun i hi=>hlt i (by simp[hi]),e7⟩
   rcases e5 u hu with⟨k1,k2⟩ | k
   ·exact .inl ⟨by simp[k1],k2⟩
   ·exact .inr k
  | _=>simp[Zcf] at h
theorem Zkp {us:Us} (h:(us.flatMap (·.2.t)++us.flatMap (·.2.n)).Nodup):
  (∀u∈us,(u.2.t++u.2.n).Nodup)∧∀i j b c,Z0 us i=some b→Z0 us j=some c→i≠j→∀g∈b.t++b.n,g∉c.t++c.n:=by
 induction us with
 | nil=>simp[Z0]
 | cons u us ih=>
  have hp:((u.2.t++us.flatMap (·.2.t))++(u.2.n++us.flatMap (·.2.n))).Perm ((u.2.t++u.2.n)++(us.flatMap (·.2.t)++us.flatMap (·.2.n))):=by
   rw[List.append_assoc,List.append_assoc]
   exact List.Perm.append_left _ (List.perm_append_comm_assoc _ _ _)
  simp only[List.flatMap_cons] at h
  rw[hp.nodup_iff,List.nodup_append] at h
  obtain⟨h1,h2,h3⟩:=h
  obtain⟨i1,i2⟩:=ih h2
  have hin:∀(b:Bd) i,Z0 us i=some b→∀g∈b.t++b.n,g∈us.flatMap (·.2.t)++us.flatMap (·.2.n):=by
   intro b i hb g hg
   have:=Zdu hb
   rcases List.mem_append.1 hg with hg | hg
   ·exact List.mem_append_left _ (List.mem_flatMap.2 ⟨_,this,hg⟩)
   ·exact List.mem_append_right _ (List.mem_flatMap.2 ⟨_,this,hg⟩)
  refine⟨fun x hx=>?_,fun i j b c hb hc hne g hg hg'=>?_⟩
  ·rcases List.mem_cons.1 hx with rfl | hx
   ·exact h1
   ·exact i1 x hx
  ·simp only[Z0] at hb hc
   split at hb <;> split at hc
   ·subst_vars;exact hne rfl
   ·cases hb;exact h3 g hg g (hin c j hc g hg') rfl
   ·cases hc;exact h3 g hg' g (hin b i hb g hg) rfl
   ·exact i2 i j b c hb hc hne g hg hg'
theorem Rp.alone {w:World} {ok ok':Nat→Prop} {x:V} {v:Value} (h:Rp tab w ok x v) (hx:ZdK x=false):Rp tab w ok' x v:=by
 cases h with
 | dead v=>exact .dead v
 | int k n=>exact .int k n
 | bool b=>exact .bool b
 | str l s h=>exact .str l s h
 | nil T a=>exact .nil T a
 | _=>simp[ZdK] at hx
theorem Rq1.alone {w:World} {ok ok':Nat→Prop} {x:V} {v:Value} {t n:List Nat} (h:Rq1 tab w ok x v t n) (hx:ZdK x=false):Rq1 tab w ok' x v t n:=by
 cases h with
 | deep h=>simp[ZdK] at hx
 | tree h=>exact .tree (h.alone hx)
 | row h=>
  obtain⟨ty,xs,ht,hr,hs,he⟩:=h
  refine .row ⟨ty,xs,ht,hr,hs,?_⟩
  rcases he with he | ⟨ho,-⟩
  ·exact .inl he
  ·simp[ZdK,ho] at hx
theorem RqL.alone {w:World} {ok ok':Nat→Prop} {xs:List V} {vs:List Value} {t n:List Nat} (h:RqL (Rq1 tab w ok) xs vs t n) (hx:xs.any ZdK=false):RqL (Rq1 tab w ok') xs vs t n:=by
 induction h with
 | nil=>exact .nil
 | cons h1 _ ih=>
  simp only[List.any_cons,Bool.or_eq_false_iff] at hx
  exact .cons (h1.alone hx.1) (ih hx.2)
theorem Rq2.alone {w:World} {ok ok':Nat→Prop} {x:V} {v:Value} {t n:List Nat} (h:Rq2 tab w ok x v t n) (hx:ZcN x=false):Rq2 tab w ok' x v t n:=by
 cases h with
 | agg h=>exact .agg (h.alone hx)
 | nb h hg=>exact .nb (h.alone hx) hg
 | rf h hg=>exact .rf (h.alone hx) hg
 | ro h hg=>exact .ro (h.alone hx) hg
 | one h=>
  cases h with
  | deep h=>simp[ZcN,ZdK] at hx
  | row h=>exact .one ((Rq1.row h).alone hx)
  | tree h=>
   cases h with
   | agg cs vals hl h=>exact .agg ((RqL.of_trees hl h).alone hx)
   | _=>exact .one (.tree (Rp.alone (ok:=ok) (by constructor <;> assumption) hx))
theorem Rq3.alone {w:World} {ok ok':Nat→Prop} {x:V} {v:Value} {t n:List Nat} (h:Rq3 tab w ok x v t n) (hx:ZeQ x=false):Rq3 tab w ok' x v t n:=by
 cases h with
 | one h=>
  have:ZcN x=false:=by
   cases h with
   | one h=>cases h with
    | row h=>exact hx
    | deep h=>exact hx
    | tree h=>cases h <;> exact hx
   | _=>exact hx
  exact .one (h.alone this)
 | tup h=>
  simp only[ZeQ] at hx
  refine .tup ?_
  induction h with
  | nil=>exact .nil
  | cons h1 _ ih=>
   simp only[List.any_cons,Bool.or_eq_false_iff] at hx
   exact .cons (h1.alone hx.1) (ih hx.2)
end
end Go.Eng
namespace Go.Eng
section
variable {P:Program} {tab:Tab}
def Mem.turn (M:Mem) (w':World) (K:List Nat) (us:Us):Mem:=
 {w:=w'
  ρ:=fun i=>match Z0 us i with | some b=>some b.rb | none=>M.ρ i
  top:=fun i=>match Z0 us i with | some b=>b.t | none=>if i∈K then[] else M.top i
  nest:=fun i=>match Z0 us i with | some b=>b.n | none=>if i∈K then[] else M.nest i
  hp:=ZW M.hp (ended K++us.blks) }
theorem ZhA {us:Us} {i:Nat} {b:Bd} (h:Z0 us i=some b):(∀g∈b.t,g∈us.flatMap (·.2.t))∧(∀g∈b.n,g∈us.flatMap (·.2.n)):=
 ⟨fun _ hg=>List.mem_flatMap.2 ⟨_,Zdu h,hg⟩,fun _ hg=>List.mem_flatMap.2 ⟨_,Zdu h,hg⟩⟩
theorem turn_ok {E:Entry} {M:Mem} (hM:MemOk tab E M) {w':World} {K0 K:List Nat} {us:Us} {t n:List Nat} {Q:(Nat→Prop)→Prop} {S:List Nat} (hg:Given E M K0 S t n Q) (hK0:∀k∈K0,k∈K)
  (hkeys:(us.map (·.1)).Nodup) (hin:∀u∈us,(u.1∈K∧M.ρ u.1=some u.2.rb)∨M.hp u.1=none)
  (hkept:KeptBut t M.w w') (hnd:(us.flatMap (·.2.t)++us.flatMap (·.2.n)).Nodup)
  (hT:∀g∈us.flatMap (·.2.t),g∈t∨M.w.heap.size≤g) (hN:∀g∈us.flatMap (·.2.n),g∈t++n∨M.w.heap.size≤g)
  (hlt:∀g∈us.flatMap (·.2.t)++us.flatMap (·.2.n),g<w'.heap.size)
  (hblk:∀u∈us,BlkIs tab w' (fun g=>(E.okA g∨E.mine g)∧g<w'.heap.size∧(∀id,id∉K→g∉M.top id)∧g∉us.flatMap (·.2.t)) (M.turn w' K us).ρ u.2.blk (some u.2.rb) u.2.t u.2.n):
  MemOk tab E (M.turn w' K us)∧MemLe E M (M.turn w' K us)∧∀g,((E.okA g∨E.mine g)∧g<w'.heap.size∧(∀id,id∉K→g∉M.top id)∧g∉us.flatMap (·.2.t))→okS E (M.turn w' K us) g:=by
 obtain⟨hnd1,hnd2⟩:=Zkp hnd
 have hok2:∀g,((E.okA g∨E.mine g)∧g<w'.heap.size∧(∀id,id∉K→g∉M.top id)∧g∉us.flatMap (·.2.t))→okS E (M.turn w' K us) g:=by
  rintro g ⟨h1,h2,h3,h4⟩
  refine⟨h1,h2,fun id hid=>?_⟩
  simp only[Mem.turn] at hid
  cases hl:Z0 us id with
  | some b=>rw[hl] at hid;exact h4 ((ZhA hl).1 g hid)
  | none=>
   rw[hl] at hid
   simp only[] at hid
   split at hid
   ·simp at hid
   ·exact h3 id ‹_› hid
 have hap:∀k,k∉K→∀g∈M.top k++M.nest k,g∉t++n:=fun k hk g hgk hgt=>by
  obtain⟨k',hk',hgk'⟩:=Mem.mem_foot.1 (hg.foot g hgt)
  exact hM.apart k k' (fun e=>hk (e▸hK0 k' hk')) g hgk hgk'
 have hhp:(M.turn w' K us).hp=fun i=>match Z0 us i with | some b=>some (some b.blk) | none=>if i∈K then some none else M.hp i:=by
  simp only[Mem.turn]
  rw[Zji,updH_us _ _ hkeys,ZnO]
  try rfl
 have hnotT:∀id,¬(id∈K∨id∈us.map (·.1))→id∉K∧Z0 us id=none:=fun id h=>⟨fun e=>h (.inl e),lookU_none.2 fun e=>h (.inr e)⟩
 have main:=hM.move (M':=M.turn w' K us) (fun id=>id∈K∨id∈us.map (·.1)) (fun id hid=>?_) (fun id rb hrb=>?_) (fun g hg'=>?_) (fun id hid g hg'=>?_)
  ⟨hkept.os,hkept.tape,hkept.output,hkept.size,fun g hg' hn=>absurd (List.mem_range.2 hg') hn⟩ (fun g hg1 hg2=>?_) (fun id hid g hg'=>?_) (fun id hid g hg'=>?_) (fun id hid=>?_) (fun id id' hid hid' hne g hg1 hg2=>?_)
  (fun id hid g hg'=>?_) (fun id hid=>?_) (fun hle id hid b hb=>?_)
 ·exact⟨main.1,main.2,hok2⟩
 ·obtain⟨h1,h2⟩:=hnotT id hid
  rw[hhp]
  simp[Mem.turn,h1,h2]
 ·simp only[Mem.turn]
  cases hl:Z0 us id with
  | none=>exact hrb
  | some b=>
   rcases hin _ (Zdu hl) with⟨_,h⟩ | h
   ·rw[hrb] at h;cases h;rfl
   ·rw[(hM.fresh _ h).1] at hrb;cases hrb
 ·refine hkept.block g hg'.2.1 fun hgt=>?_
  obtain⟨k,hk,hgk⟩:=hg.top g hgt
  exact hg'.2.2 k hgk
 ·obtain⟨h1,h2⟩:=hnotT id hid
  exact hkept.block g (hM.mine id g hg').2 fun hgt=>hap id h1 g hg' (List.mem_append_left _ hgt)
 ·refine hkept.block g (Nat.lt_of_lt_of_le hg1 hM.kept.size) fun hgt=>?_
  obtain⟨k,hk,hgk⟩:=hg.top g hgt
  rcases hM.mineT k g hgk with h | h
  ·exact hg2 h
  ·omega
 ·simp only[Mem.turn] at hg'
  cases hl:Z0 us id with
  | some b=>
   rw[hl] at hg'
   rcases hT g ((ZhA hl).1 g hg') with h | h
   ·obtain⟨k,hk,hgk⟩:=hg.top g h
    exact .inl ⟨k, .inl (hK0 k hk),hgk⟩
   ·exact .inr h
  | none=>
   rw[hl] at hg'
   simp only[] at hg'
   rcases hid with hid | hid
   ·simp[hid] at hg'
   ·exact absurd hid (lookU_none.1 hl)
 ·simp only[Mem.turn] at hg'
  cases hl:Z0 us id with
  | some b=>
   rw[hl] at hg'
   rcases hN g ((ZhA hl).2 g hg') with h | h
   ·obtain⟨k,hk,hgk⟩:=Mem.mem_foot.1 (hg.foot g h)
    exact .inl ⟨k, .inl (hK0 k hk),hgk⟩
   ·exact .inr h
  | none=>
   rw[hl] at hg'
   simp only[] at hg'
   rcases hid with hid | hid
   ·simp[hid] at hg'
   ·exact absurd hid (lookU_none.1 hl)
 ·simp only[Mem.turn]
  cases hl:Z0 us id with
  | some b=>exact hnd1 _ (Zdu hl)
  | none=>
   rcases hid with hid | hid
   ·simp[hid]
   ·exact absurd hid (lookU_none.1 hl)
 ·simp only[Mem.turn] at hg1 hg2
  cases hl:Z0 us id with
  | some b=>
   cases hl':Z0 us id' with
   | some b'=>
    rw[hl] at hg1
    rw[hl'] at hg2
    exact hnd2 id id' b b' hl hl' hne g hg1 hg2
   | none=>
    rw[hl'] at hg2
    rcases hid' with hid' | hid'
    ·simp[hid'] at hg2
    ·exact absurd hid' (lookU_none.1 hl')
  | none=>
   rw[hl] at hg1
   rcases hid with hid | hid
   ·simp[hid] at hg1
   ·exact absurd hid (lookU_none.1 hl)
 ·simp only[Mem.turn] at hg'
  cases hl:Z0 us id with
  | some b=>
   rw[hl] at hg'
   refine hlt g ?_
   rcases List.mem_append.1 hg' with h | h
   ·exact List.mem_append_left _ ((ZhA hl).1 g h)
   ·exact List.mem_append_right _ ((ZhA hl).2 g h)
  | none=>
   rw[hl] at hg'
   rcases hid with hid | hid
   ·simp[hid] at hg'
   ·exact absurd hid (lookU_none.1 hl)
 ·rw[hhp]
  simp only[Mem.turn]
  cases hl:Z0 us id with
  | some b=>simp
  | none=>
   rcases hid with hid | hid
   ·simp[hid]
   ·exact absurd hid (lookU_none.1 hl)
 ·rw[hhp] at hb
  cases hl:Z0 us id with
  | some b'=>
   simp only[hl,Option.some.injEq] at hb
   subst hb
   have:=(hblk _ (Zdu hl)).keep (ρ':=(M.turn w' K us).ρ) (fun _ _ h=>h) hok2 (fun _ _=>rfl) fun _ _=>rfl
   have e:(M.turn w' K us).ρ id=some b'.rb∧(M.turn w' K us).top id=b'.t∧(M.turn w' K us).nest id=b'.n:=by simp[Mem.turn,hl]
   rw[e.1,e.2.1,e.2.2]
   exact this
  | none=>
   rcases hid with hid | hid
   ·simp[hl,hid] at hb
   ·exact absurd hid (lookU_none.1 hl)
theorem ZhB {x y:V} {h:ZaG} {K log:List Nat} (e:Zb3 x h=some ((y,K),log)):∀k∈K,h k≠none:=by
 cases x with
 | sl id T off len=>
  obtain⟨blk,l1,b1,l1',h6,h7,h8⟩:=Zj e
  cases h8
  obtain⟨h6,-⟩:=ZaH h6
  have hK:K=[id]:=by
   cases blk with
   | box T cs=>exact(Zo h7).elim
   | drow T' els=>
    simp only[] at h7
    split at h7
    ·cases Zm h7;rfl
    ·exact(Zo h7).elim
   | hrow _ _ _ _ _=>exact(Zo h7).elim
   | grow _ _=>exact(Zo h7).elim
   | row T' own' els=>
    simp only[] at h7
    split at h7 <;> (cases Zm h7;rfl)
  subst hK
  intro k hk
  simp at hk;subst hk
  rw[h6];simp
 | inl T l=>cases Zm (h:=h) e;simp
 | nil T=>cases Zm (h:=h) e;simp
 | int k n=>cases Zm (h:=h) e;simp
 | bool b=>cases Zm (h:=h) e;simp
 | str l=>cases Zm (h:=h) e;simp
 | ep cs off=>cases Zm (h:=h) e;simp
 | _=>exact(Zo (h:=h) e).elim
theorem ZhC {h:ZaG}:∀{xs ys:List V} {K log:List Nat},Zb2 Zb3 xs h=some ((ys,K),log)→∀k∈K,h k≠none
 | [],ys,K,log,e=>by cases Zm (h:=h) e;simp
 | x :: xs,ys,K,log,e=>by
  obtain⟨⟨y,k⟩,l1,b1,l1',h1,h2,h3⟩:=Zj e
  obtain⟨⟨ys',k'⟩,l2,b2,l2',h4,h5,h6⟩:=Zj h2
  cases Zm h5
  cases h3
  cases h6
  intro z hz
  rcases List.mem_append.1 hz with hz | hz
  ·exact ZhB h1 z hz
  ·exact ZhC h4 z hz
theorem Zii {mkv:TypeId→List V→V} {x y:V} {h:ZaG} {K log:List Nat} (e:Zdh mkv x h=some ((y,K),log)):∀k∈K,h k≠none:=by
 have hother:Zb3 x h=some ((y,K),log)→∀k∈K,h k≠none:=fun e=>ZhB e
 cases x with
 | bp id off=>
  cases off with
  | succ off=>exact(Zo (h:=h) e).elim
  | zero=>
   obtain⟨blk,l1,b1,l1',h6,h7,h8⟩:=Zj e
   cases h8
   obtain⟨h6,-⟩:=ZaH h6
   cases blk with
   | row T own els=>exact(Zo h7).elim
   | drow _ _=>exact(Zo h7).elim
   | hrow _ _ _ _ _=>exact(Zo h7).elim
   | grow _ _=>exact(Zo h7).elim
   | box T cs=>
    obtain⟨⟨ys,K'⟩,l2,b2,l2',h9,h10,h11⟩:=Zj h7
    cases Zm h10
    cases h11
    intro k hk
    rcases List.mem_cons.1 hk with rfl | hk
    ·rw[h6];simp
    ·exact ZhC h9 k hk
 | _=>exact hother e
theorem Zpt {m q:Bool} {x y:V} {h:ZaG} {K S log:List Nat} (e:argV m q x h=some ((y,K,S),log)):∀k∈K,h k≠none:=by
 have hview:∀{f:RM (V×List Nat)},RM.bind f (fun a=>RM.ret (a.1,([]:List Nat),a.2)) h=some ((y,K,S),log)→∀k∈K,h k≠none:=by
  intro f e
  obtain⟨⟨y',k⟩,l1,b1,l1',h5,h6,h7⟩:=Zj e
  cases Zm h6
  cases h7
  simp
 have hv0:RM.bind (ZfJ x) (fun a=>RM.ret (a.1,([]:List Nat),a.2)) h=some ((y,K,S),log)→∀k∈K,h k≠none:=fun e=>hview e
 have hgive:∀{f:RM (V×List Nat)},(∀y K log,f h=some ((y,K),log)→∀k∈K,h k≠none)→RM.bind f (fun a=>RM.ret (a.1,a.2,([]:List Nat))) h=some ((y,K,S),log)→∀k∈K,h k≠none:=by
  intro f hf e
  obtain⟨⟨y',k⟩,l1,b1,l1',h5,h6,h7⟩:=Zj e
  cases Zm h6
  cases h7
  exact hf _ _ _ h5
 cases x with
 | bp id off=>
  cases q with
  | true=>exact hview (f:=ZdO (.bp id off)) e
  | false=>exact hgive (f:=Zg4 id off) (fun y K log e=>by
    cases off with
    | zero=>exact Zii (mkv:=.rf) (x:=.bp id 0) (y:=y) (log:=log) e
    | succ off=>
     have e:RM.bind (Zdh .rf (.bp id 0)) (fun a=>RM.ret (inner (off+1) a.1,a.2)) h=some ((y,K),log):=e
     obtain⟨⟨y',k⟩,l1,b1,l1',h5,h6,h7⟩:=Zj e
     cases Zm h6
     cases h7
     exact Zii h5) e
 | sl id T off len=>
  unfold argV at e
  simp only[] at e
  split at e
  ·exact hgive (fun y K log e=>ZhB e) e
  ·exact hview e
 | agg cs=>
  cases m with
  | true=>
   have e:RM.bind (Zb2 Zb3 cs) (fun r=>RM.ret (V.agg r.1,r.2,([]:List Nat))) h=some ((y,K,S),log):=e
   obtain⟨⟨ys,k⟩,l1,b1,l1',h5,h6,h7⟩:=Zj e
   cases Zm h6
   cases h7
   exact ZhC h5
  | false=>exact hview (f:=ZfJ (.agg cs)) e
 | _=>exact hv0 e
theorem Zkq {m q:Bool} {h:ZaG}:∀{xs ys:List V} {K S log:List Nat},Zj4 m q xs h=some ((ys,K,S),log)→∀k∈K,h k≠none
 | [],ys,K,S,log,e=>by cases Zm (h:=h) e;simp
 | x :: xs,ys,K,S,log,e=>by
  obtain⟨⟨y,k,s⟩,l1,b1,l1',h1,h2,h3⟩:=Zj e
  obtain⟨⟨ys',k',s'⟩,l2,b2,l2',h4,h5,h6⟩:=Zj h2
  cases Zm h5
  cases h3
  cases h6
  intro z hz
  rcases List.mem_append.1 hz with hz | hz
  ·exact Zpt h1 z hz
  ·exact Zkq h4 z hz
theorem Rq1.keep {w:World} {ok ok':Nat→Prop} {x:V} {v:Value} {t n:List Nat} (h:Rq1 tab w ok x v t n) (hok:∀g,ok g→ok' g):Rq1 tab w ok' x v t n:=by
 cases h with
 | tree h=>exact .tree (h.keep hok fun _ _=>rfl)
 | row h=>exact .row (h.keep hok (fun _ _=>rfl) fun _ _=>rfl)
 | deep h=>exact .deep (h.keep hok (fun _ _=>rfl) fun _ _=>rfl)
theorem Rq2.keep {w:World} {ok ok':Nat→Prop} {x:V} {v:Value} {t n:List Nat} (h:Rq2 tab w ok x v t n) (hok:∀g,ok g→ok' g):Rq2 tab w ok' x v t n:=by
 cases h with
 | one h=>exact .one (h.keep hok)
 | agg h=>exact .agg (h.mono fun _ _ _ _ h=>h.keep hok)
 | nb h hg=>exact .nb (h.mono fun _ _ _ _ h=>h.keep hok) hg
 | rf h hg=>exact .rf (h.mono fun _ _ _ _ h=>h.keep hok) hg
 | ro h hg=>exact .ro (h.mono fun _ _ _ _ h=>h.keep hok) hg
theorem Rq3.keep {w:World} {ok ok':Nat→Prop} {x:V} {v:Value} {t n:List Nat} (h:Rq3 tab w ok x v t n) (hok:∀g,ok g→ok' g):Rq3 tab w ok' x v t n:=by
 cases h with
 | one h=>exact .one (h.keep hok)
 | tup h=>exact .tup (h.mono fun _ _ _ _ h=>h.keep hok)
theorem Zok {w:World} {ok:Nat→Prop} {T T0:TypeId} {v:Value} (h:Rp tab w ok (.nil T0) v):Rp tab w ok (nrmT tab T) v:=by
 cases h with | nil _ a=>
 unfold nrmT
 split
 ·rename_i ty hty
  exact .inl T [] ty a 0 0 0 (fun _ _=>undef) hty (by simp) (by simp) (by simp) (by simp) (by simp)
 ·exact .nil T a
theorem ZiT {w:World} {ok:Nat→Prop} {x:V} {v:Value} (h:Rp tab w ok x v):Rp tab w ok (nrm1 tab x) v:=by
 cases x with
 | nil T=>exact Zok h
 | _=>exact h
theorem Zgj {f:V→V} (hf:f .dead = .dead) (cs:List V) (j:Nat):(cs.map f).getD j .dead=f (cs.getD j .dead):=by
 simp only[List.getD,List.getElem?_map]
 cases cs[j]? <;> simp[hf]
theorem nrmC_rp {w:World} {ok:Nat→Prop} {x:V} {v:Value} (h:Rp tab w ok x v):Rp tab w ok (nrmC tab x) v:=by
 cases h with
 | ep cs off g o cv h1 h2 h3=>exact .ep _ off g o cv h1 (fun j hj=>h2 j (by simpa using hj)) fun j hj=>by rw[Zgj rfl];exact ZiT (h3 j (by simpa using hj))
 | _=>first | exact .dead _ | exact .int _ _ | exact .bool _ | (apply Rp.str;assumption) | exact .nil _ _ | (apply Rp.inl <;> assumption) | (apply Rp.fn <;> assumption) | (apply Rp.agg <;> assumption) | (apply Rp.nn;assumption) | (apply Rp.nl;assumption) | exact .sk
theorem nrmA_rp {w:World} {ok:Nat→Prop} {e:Option TypeId} {x:V} {v:Value} (h:Rp tab w ok x v):Rp tab w ok (nrmA tab e x) v:=by
 cases h with
 | nil T a=>exact Zok (.nil T a)
 | agg cs vals hl h=>exact .agg _ vals (by simpa using hl) fun j hj=>by rw[Zgj rfl];exact ZiT (h j (by simpa using hj))
 | fn f cs vals hl h=>exact .fn f _ vals (by simpa using hl) fun j hj=>by rw[Zgj rfl];exact nrmC_rp (h j (by simpa using hj))
 | ep cs off g o cv h1 h2 h3=>exact .ep _ off g o cv h1 (fun j hj=>h2 j (by simpa using hj)) fun j hj=>by rw[Zgj rfl];exact ZiT (h3 j (by simpa using hj))
 | _=>first | exact .dead _ | exact .int _ _ | exact .bool _ | (apply Rp.str;assumption) | (apply Rp.inl <;> assumption) | (apply Rp.nn;assumption) | (apply Rp.nl;assumption) | exact .sk
theorem nrm1_rq {w:World} {ok:Nat→Prop} {x:V} {v:Value} {t n:List Nat} (h:Rq1 tab w ok x v t n):Rq1 tab w ok (nrm1 tab x) v t n:=by
 cases h with
 | tree h=>exact .tree (ZiT h)
 | row h=>exact .row h
 | deep h=>exact .deep h
theorem Zol {w:World} {ok:Nat→Prop} {x:V} {v:Value} {t n:List Nat} (h:Rq1 tab w ok x v t n):Rq1 tab w ok (nrmO tab x) v t n:=by
 cases h with
 | row h=>exact .row h
 | deep h=>exact .deep h
 | tree h=>
  cases x with
  | nil T=>
   cases h with | nil _ a=>
   simp only[nrmO]
   split
   ·rename_i ty hty
    have:Rq1 tab w ok (.rr T true []) (.slice a 0 0) (Zr (.slice a 0 0)) []:=
     .row ⟨ty,[],hty,⟨by simp, .inl ⟨a,rfl,rfl⟩⟩,by simp, .inl ⟨rfl,fun _ _=>[],by simp[ZD],by simp⟩⟩
    have e:Zr (.slice a 0 0)=[]:=by cases a <;> rfl
    rw[e] at this;exact this
   ·exact .tree (.nil T a)
  | _=>exact .tree h
theorem RqL.map {R:V→Value→List Nat→List Nat→Prop} {f:V→V} (hf:∀x v t n,R x v t n→R (f x) v t n) {xs:List V} {vs:List Value} {t n:List Nat} (h:RqL R xs vs t n):RqL R (xs.map f) vs t n:=by
 induction h with
 | nil=>exact .nil
 | cons h1 _ ih=>exact .cons (hf _ _ _ _ h1) ih
theorem Zom {w:World} {ok:Nat→Prop} {e:Option TypeId} {x:V} {v:Value} {t n:List Nat} (h:Rq2 tab w ok x v t n):Rq2 tab w ok (nrmA tab e x) v t n:=by
 cases h with
 | one h=>cases h with
  | tree h=>exact .one (.tree (nrmA_rp h))
  | row h=>exact .one (.row h)
  | deep h=>exact .one (.deep h)
 | agg h=>exact .agg (h.map fun _ _ _ _ h=>nrm1_rq h)
 | nb h hg=>exact .nb h hg
 | rf h hg=>exact .rf (h.map fun _ _ _ _ h=>Zol h) hg
 | ro h hg=>exact .ro (h.map fun _ _ _ _ h=>Zol h) hg
theorem nrmL_rq {w:World} {ok:Nat→Prop} {xs:List V} {vs:List Value} {t n:List Nat} (h:RqL (Rq2 tab w ok) xs vs t n):∀es,RqL (Rq2 tab w ok) (nrmL tab es xs) vs t n:=by
 induction h with
 | nil=>intro es;cases es <;> exact .nil
 | cons h1 _ ih=>
  intro es
  cases es with
  | nil=>exact .cons (Zom h1) (ih [])
  | cons e es=>exact .cons (Zom h1) (ih es)
theorem Zkr (f:V→V) (hf:∀x,f x=x∨(ZfX x=false∧ZfX (f x)=false)):∀(xs:List V) (vs:List Value),ZaP (xs.map f) vs=ZaP xs vs
 | [],vs=>by simp
 | x :: xs,[]=>by
  have h1:∀x:V,∀xs,ZaP (x :: xs) []=[]:=fun x xs=>by cases x <;> rfl
  rw[List.map_cons,h1,h1]
 | x :: xs,v :: vs=>by
  have ih:=Zkr f hf xs vs
  have hn:∀y:V,ZfX y=false→∀ys,ZaP (y :: ys) (v :: vs)=ZaP ys vs:=fun y hy ys=>by
   cases y <;> first | rfl | (simp[ZfX] at hy;done)
  rw[List.map_cons]
  rcases hf x with e | ⟨e1,e2⟩
  ·rw[e]
   cases x <;> first | (simp only[ZaP];rw[ih]) | simp only[ZaP,ih]
  ·rw[hn _ e2,hn _ e1,ih]
theorem nrm1_no (x:V):nrm1 tab x=x∨(ZfX x=false∧ZfX (nrm1 tab x)=false):=by
 cases x with
 | nil T=>
  refine .inr ⟨rfl,?_⟩
  simp only[nrm1,nrmT]
  split <;> rfl
 | _=>exact .inl rfl
inductive Alike:List (V×Value)→List (V×Value)→Prop where
 | nil:Alike [] []
 | same {p:V×Value} {a b:List (V×Value)}:Alike a b→Alike (p :: a) (p :: b)
 | rf {T:TypeId} {c d:List V} {v:Value} {a b:List (V×Value)}:Alike a b→Alike ((.rf T c,v) :: a) ((.rf T d,v) :: b)
theorem Alike.refl:∀a,Alike a a
 | []=>.nil
 | _ :: a=>.same (Alike.refl a)
theorem Alike.append {a b c d:List (V×Value)} (h:Alike a b) (k:Alike c d):Alike (a++c) (b++d):=by
 induction h with
 | nil=>exact k
 | same _ ih=>exact .same ih
 | rf _ ih=>exact .rf ih
theorem Zks (e:Option TypeId) (x:V) (v:Value):Alike (Zcc (nrmA tab e x) v) (Zcc x v):=by
 cases x with
 | nil T=>simp only[nrmA,nrmT];split <;> exact .nil
 | agg cs=>
  cases v with
  | agg vs=>simp only[nrmA,Zcc];rw[Zkr _ nrm1_no];exact .refl _
  | _=>exact .refl _
 | rf T cs=>exact .rf .nil
 | ro T off cs=>
  cases v with
  | pointer a=>cases a with
   | none=>exact .nil
   | some a=>exact .rf .nil
  | _=>exact .nil
 | _=>exact .refl _
theorem ZhD:∀(es:List (Option TypeId)) (xs:List V) (vs:List Value),Alike (Zbs (nrmL tab es xs) vs) (Zbs xs vs)
 | es,[],vs=>by cases es <;> exact .refl _
 | [],x :: xs,[]=>.refl _
 | e :: es,x :: xs,[]=>.refl _
 | [],x :: xs,v :: vs=>(Zks none x v).append (ZhD [] xs vs)
 | e :: es,x :: xs,v :: vs=>(Zks e x v).append (ZhD es xs vs)
theorem OutL.alike {R:V→Value→List Nat→List Nat→Prop} {ps qs:List (V×Value)} {ys:List V} {t n:List Nat} (h:Alike ps qs) (hr:OutL R ps ys t n):OutL R qs ys t n:=by
 induction h generalizing ys t n with
 | nil=>exact hr
 | same _ ih=>cases hr with | cons h1 h2 h3=>exact .cons h1 h2 (ih h3)
 | rf _ ih=>
  cases hr with | @cons _ y _ _ _ _ _ _ h1 h2 h3=>
  refine .cons ?_ h2 (ih h3)
  cases y <;> first | exact h1 | exact h1.elim
def Zbt (b:Bd):Bd:=match b.blk with
 | .row T true els=>⟨.drow T els,b.rb,b.t++b.n,[]⟩
 | _=>b
theorem ZoR (b:Bd):(Zbt b).blk=Zgb b.blk:=by
 obtain⟨blk,rb,t,n⟩:=b
 unfold Zbt Zgb
 cases blk with
 | row T own els=>cases own <;> rfl
 | _=>rfl
theorem Zpu (b:Bd):(Zbt b).rb=b.rb:=by
 obtain⟨blk,rb,t,n⟩:=b
 unfold Zbt
 cases blk with
 | row T own els=>cases own <;> rfl
 | _=>rfl
theorem Zpv (b:Bd):((Zbt b).t++(Zbt b).n).Perm (b.t++b.n):=by
 obtain⟨blk,rb,t,n⟩:=b
 unfold Zbt
 cases blk with
 | row T own els=>cases own <;> simp
 | _=>exact .refl _
theorem Zpw {w:World} {ok:Nat→Prop} {ρ:Nat→Option RB} {b:Bd} (h:BlkIs tab w ok ρ b.blk (some b.rb) b.t b.n):BlkIs tab w ok ρ (Zbt b).blk (some (Zbt b).rb) (Zbt b).t (Zbt b).n:=by
 obtain⟨blk,rb,t,n⟩:=b
 unfold Zbt
 cases blk with
 | row T own els=>
  cases own with
  | false=>exact h
  | true=>
   obtain⟨ty,v,h1,h2,h3,h4⟩:=h
   dsimp only at h4
   subst h4
   exact⟨ty,v,n,h1,h2,h3,rfl,rfl⟩
 | _=>exact h
theorem numB_map (nid:Nat) (Bs:List Bd):numB nid (Bs.map Zbt)=(numB nid Bs).map fun u=>(u.1,Zbt u.2):=by
 induction Bs generalizing nid with
 | nil=>rfl
 | cons b Bs ih=>simp[numB,ih]
theorem ZlZ (nid:Nat) (bs:List Blk):ZcU nid (bs.map Zgb)=(ZcU nid bs).map fun p=>(p.1,p.2.map Zgb):=by
 induction bs generalizing nid with
 | nil=>rfl
 | cons b bs ih=>simp[ZcU,ih]
theorem _root_.List.perm_append4 {α:Type} (a b c d:List α):((a++b)++(c++d)).Perm ((a++c)++(b++d)):=by
 rw[List.append_assoc,List.append_assoc]
 exact List.Perm.append_left a (List.perm_append_comm_assoc _ _ _)
theorem ZnP (us:Us):(us.flatMap (fun u=>(Zbt u.2).t)++us.flatMap (fun u=>(Zbt u.2).n)).Perm (us.flatMap (·.2.t)++us.flatMap (·.2.n)):=by
 induction us with
 | nil=>exact .refl _
 | cons u us ih=>
  simp only[List.flatMap_cons]
  exact(List.perm_append4 _ _ _ _).trans (((Zpv u.2).append ih).trans (List.perm_append4 _ _ _ _).symm)
theorem ZoS {cfg:Cfg} (ht:cfg.tab=tab) (hS:Zbk P tab cfg.sums) {E:Entry} {M:Mem} (hM:MemOk tab E M) {nid:Nat} {f:FuncId} {args:List V} {vals:List Value}
  (hr:RsL tab M.w (okS E M) M.ρ args vals) {Ef:Eff} {log:List Nat} (h:Zj5 cfg nid f args M.hp=some (Ef,log)) (hfresh:∀id∈Ef.upd.map (·.1),nid≤id→M.hp id=none):
  Zfy P f∧Calls P f vals.toArray M.w fun e w'=>∃val,e = .returned val∧∃M',M'.w=w'∧StepOk tab E M Ef val M':=by
 subst ht
 obtain⟨⟨aw,K,S⟩,l1,b1,l1',h1,h2,h3⟩:=Zj h
 obtain⟨h2a,h2b⟩:=Zw h2
 obtain⟨⟨pre,r⟩,l2,b2,l2',h4,h5,h6⟩:=Zj h2b
 obtain⟨h4,-⟩:=Zu h4
 obtain⟨h5a,h5b⟩:=Zw h5
 dsimp only at h5a h5b h4
 subst h5a
 obtain⟨q,l3,b3,l3',h7,h8,h9⟩:=Zj h5b
 obtain⟨h7,-⟩:=Zu h7
 cases Zm h8
 cases h9;cases h6;cases h3
 generalize hLk:(bif ZeQ r.1||r.2.any ZcN then S else[])=leak at *
 have hleak:∀k∈leak,k∈S:=fun k hk=>by
  rw[←hLk] at hk
  cases hsh:(ZeQ r.1||r.2.any ZcN) with
  | false=>rw[hsh] at hk;simp at hk
  | true=>rw[hsh] at hk;exact hk
 simp only[Bool.and_eq_true,List.all_eq_true,Bool.not_eq_true',List.contains_eq_mem,decide_eq_false_iff_not] at h2a
 obtain⟨hKd,hLd,hSK⟩:=h2a
 have hK:=ZcR hKd
 obtain⟨⟨t,n,hg⟩,hlent,hsub⟩:=Zko hM args vals hr h1
 have hmineK:∀g∈t++n,E.mine g∧g<M.w.heap.size:=fun g hgt=>by
  obtain⟨k,hk,hgk⟩:=Mem.mem_foot.1 (hg.foot g hgt)
  exact hM.mine k g hgk
 have hap:∀k,k∉K→∀g∈M.top k++M.nest k,g∉t++n:=fun k hk g hgk hgt=>by
  obtain⟨k',hk',hgk'⟩:=Mem.mem_foot.1 (hg.foot g hgt)
  exact hM.apart k k' (fun e=>hk (e▸hk')) g hgk hgk'
 have hq:=hg.is hK (fun g=>okS E M g∨(∃k∈K,g∈M.top k∧g∉t)∨∃k∈S,g∈M.top k) (fun g h=>.inl h) (fun k hk g hgk hgt=>.inr (.inl ⟨k,hk,hgk,hgt⟩)) fun k hk g hgk=>.inr (.inr ⟨k,hk,hgk⟩)
 refine⟨(hS f _ r h4).1,Calls.mono ((hS f _ r h4).2 M.w _ vals t n (nrmL_rq hq _) (hg.nodup hK) (fun g hok=>?_) fun g hgt=>(hmineK g hgt).2) ?_⟩
 ·rcases hok with hok | ⟨k,hk,hgk,hgt⟩ | ⟨k,hk,hgk⟩
  ·refine⟨hok.2.1,fun hgt=>?_⟩
   obtain⟨k,hk,hgk⟩:=hg.top g hgt
   exact hok.2.2 k hgk
  ·exact⟨(hM.mine k g (List.mem_append_left _ hgk)).2,hgt⟩
  ·exact⟨(hM.mine k g (List.mem_append_left _ hgk)).2,fun hgt=>hap k (hSK k hk) g (List.mem_append_left _ hgk) (List.mem_append_left _ hgt)⟩
 rintro e w' ⟨val,rfl,rt,rn,ot,on,r1,r2,hnd,hT,hN,hlt,hkept⟩
 refine⟨val,rfl,?_⟩
 have r2:=r2.alike (ZhD _ _ _)
 have hsz:=hkept.size
 have hmono:∀g,((((okS E M g∨(∃k∈K,g∈M.top k∧g∉t)∨∃k∈S,g∈M.top k)∨g∈t++n∨M.w.heap.size≤g)∧g<w'.heap.size∧g∉ot++rt)∧leak=S)→
   (E.okA g∨E.mine g)∧g<w'.heap.size∧(∀id,id∉K++leak→g∉M.top id)∧g∉ot++rt:=by
  rintro g ⟨⟨z1,z2,z3⟩,hLS⟩
  suffices hs:(E.okA g∨E.mine g)∧∀id,id∉K++leak→g∉M.top id from⟨hs.1,z2,hs.2,z3⟩
  rcases z1 with(hok | ⟨k,hk,hgk,hgt⟩ | ⟨k,hk,hgk⟩) | hgt | hge
  ·exact⟨hok.1,fun id _=>hok.2.2 id⟩
  ·exact⟨.inr (hM.mine k g (List.mem_append_left _ hgk)).1,fun id hid hgi=>hM.apart id k (fun e=>hid (List.mem_append_left _ (e▸hk))) g (List.mem_append_left _ hgi) (List.mem_append_left _ hgk)⟩
  ·exact⟨.inr (hM.mine k g (List.mem_append_left _ hgk)).1,fun id hid hgi=>hM.apart id k (fun e=>hid (List.mem_append_right _ (hLS▸e▸hk))) g (List.mem_append_left _ hgi) (List.mem_append_left _ hgk)⟩
  ·exact⟨.inr (hmineK g hgt).1,fun id hid hgi=>hap id (fun h=>hid (List.mem_append_left _ h)) g (List.mem_append_left _ hgi) hgt⟩
  ·exact⟨.inr (.inr (Nat.le_trans hM.kept.size hge)),fun id _ hgi=>by have:=(hM.mine id g (List.mem_append_left _ hgi)).2;omega⟩
 have hlentO:=hlent
 generalize hbs:(bif cfg.deep&&(K.isEmpty && !(ZeQ r.1||r.2.any ZcN)) then(Zdx q.2 r.1).2.map Zgb else(Zdx q.2 r.1).2)=bs at hfresh ⊢
 have hKlt:∀i∈K,i<nid:=fun i hi=>by
  rcases Nat.lt_or_ge i nid with h | h
  ·exact h
  ·exact absurd (hfresh i (by simp only[List.map_append,List.mem_append];exact .inl (by simp only[ended,List.map_append,List.mem_append,List.map_map];exact .inl (by simpa using hi))) h) (Zkq h1 i hi)
 have hidlt:∀i∈args.flatMap (lent (cfg.mutf f) (cfg.rof f)),i<nid:=fun i hi=>hKlt i (hsub i hi)
 have fin:∀(okf:Nat→Prop) (rt' rn':List Nat) (Bs:List Bd),ZcU q.2 bs=Us.blks (numB q.2 Bs)→rt'=(numB q.2 Bs).flatMap (·.2.t)→rn'=(numB q.2 Bs).flatMap (·.2.n)→
   (∀ρ:Nat→Option RB,(∀u∈numB q.2 Bs,ρ u.1=some u.2.rb)→Rs cfg.tab w' okf ρ (Zdx q.2 r.1).1 val∧∀u∈numB q.2 Bs,BlkIs cfg.tab w' okf ρ u.2.blk (some u.2.rb) u.2.t u.2.n)→
   OutL (Rq2 cfg.tab w' okf) (Zbs aw vals) r.2 ot on→(∀g,okf g→(E.okA g∨E.mine g)∧g<w'.heap.size∧(∀id,id∉K++leak→g∉M.top id)∧g∉ot++rt')→
   ((ot++rt')++(on++rn')).Nodup→(∀g∈ot++rt',g∈t∨M.w.heap.size≤g)→(∀g∈on++rn',g∈t++n∨M.w.heap.size≤g)→(∀g∈(ot++rt')++(on++rn'),g<w'.heap.size)→
   ∃M',M'.w=w'∧StepOk cfg.tab E M ⟨(Zdx q.2 r.1).1,ended (K++leak)++(q.1++ZcU q.2 bs)⟩ val M':=by
  intro okf rt' rn' Bs c1 c2 c3 c4 r2' hokf hnd hT hN hlt
  obtain⟨us1,u1,u2,u3,u4,u5,u6,u7⟩:=ZlY (M:=M) hlent r2' h7
  dsimp only at u1 u4 u5
  have hupd:ended (K++leak)++(q.1++ZcU q.2 bs)=ended (K++leak)++Us.blks (us1++numB q.2 Bs):=by
   rw[u1,c1];simp[Us.blks]
  have hflatT:(us1++numB q.2 Bs).flatMap (·.2.t)=ot++rt':=by rw[List.flatMap_append,←u2,←c2]
  have hflatN:(us1++numB q.2 Bs).flatMap (·.2.n)=on++rn':=by rw[List.flatMap_append,←u3,←c3]
  have hkeys:((us1++numB q.2 Bs).map (·.1)).Nodup:=by
   rw[List.map_append,List.nodup_append]
   refine⟨u6 (ZcR hLd) hidlt,Zhy _ _,fun a ha b hb e=>?_⟩
   subst e
   obtain⟨u,hu,e⟩:=List.mem_map.1 ha
   obtain⟨u',hu',e'⟩:=List.mem_map.1 hb
   have k:=Zd7 u' hu'
   rcases u5 u hu with⟨k1,-⟩ | ⟨k1,k2⟩
   ·have:=hidlt u.1 k1;omega
   ·omega
  have hkey:∀u∈us1++numB q.2 Bs,nid≤u.1→M.hp u.1=none:=fun u hu hge=>hfresh u.1 (by
   dsimp only
   rw[hupd,List.map_append,List.mem_append]
   exact .inr (List.mem_map.2 ⟨_,List.mem_map.2 ⟨u,hu,rfl⟩,rfl⟩)) hge
  have hin:∀u∈us1++numB q.2 Bs,(u.1∈K++leak∧M.ρ u.1=some u.2.rb)∨M.hp u.1=none:=fun u hu=>by
   rcases List.mem_append.1 hu with hu | hu
   ·rcases u5 u hu with⟨k1,k2⟩ | ⟨k1,k2⟩
    ·exact .inl ⟨List.mem_append_left _ (hsub _ k1),k2⟩
    ·exact .inr (hkey u (List.mem_append_left _ hu) k1)
   ·have k:=Zd7 u hu
    exact .inr (hkey u (List.mem_append_right _ hu) (by omega))
  have hturn:∀u∈us1++numB q.2 Bs,(M.turn w' (K++leak) (us1++numB q.2 Bs)).ρ u.1=some u.2.rb:=fun u hu=>by
   simp only[Mem.turn,Zmv hkeys hu]
  obtain⟨s1,s2⟩:=c4 (M.turn w' (K++leak) (us1++numB q.2 Bs)).ρ fun u hu=>hturn u (List.mem_append_right _ hu)
  have s3:=u7 (M.turn w' (K++leak) (us1++numB q.2 Bs)).ρ fun u hu=>hturn u (List.mem_append_left _ hu)
  have main:=turn_ok hM hg (K:=K++leak) (fun k hk=>List.mem_append_left _ hk) (us:=us1++numB q.2 Bs) hkeys hin hkept (by rw[hflatT,hflatN];exact hnd) (by rw[hflatT];exact hT) (by rw[hflatN];exact hN) (by rw[hflatT,hflatN];exact hlt)
   (by
    rw[hflatT]
    intro u hu
    rcases List.mem_append.1 hu with hu | hu
    ·exact(s3 u hu).keep (fun _ _ h=>h) hokf (fun _ _=>rfl) fun _ _=>rfl
    ·exact(s2 u hu).keep (fun _ _ h=>h) hokf (fun _ _=>rfl) fun _ _=>rfl)
  obtain⟨m1,m2,m3⟩:=main
  refine⟨M.turn w' (K++leak) (us1++numB q.2 Bs),rfl,⟨m1,m2,?_,?_⟩⟩
  ·show ZW M.hp (ended (K++leak)++(us1++numB q.2 Bs).blks)=_
   rw[←hupd]
  ·rw[hflatT] at m3
   exact s1.mono (fun _ _ h=>h) (fun g hg=>m3 g (hokf g hg)) fun _ _=>rfl
 cases hdp:(cfg.deep&&(K.isEmpty && !(ZeQ r.1||r.2.any ZcN))) with
 | true=>
  rw[hdp] at hbs
  have hbs:(Zdx q.2 r.1).2.map Zgb=bs:=hbs
  subst hbs
  simp only[Bool.and_eq_true,Bool.not_eq_true',Bool.or_eq_false_iff,List.any_eq_false,List.isEmpty_iff] at hdp
  obtain⟨-,rfl,hsh1,hsh2⟩:=hdp
  have htn:∀g,g∉t++n:=fun g hgt=>by
   obtain⟨k,hk,-⟩:=Mem.mem_foot.1 (hg.foot g hgt)
   simp at hk
  obtain⟨Bs,c0,c1,c2,c3,c4⟩:=(ZhX (r1.alone (ok':=fun _=>False) hsh1) q.2).numB
  have hperm:=ZnP (numB q.2 Bs)
  have hnumB:numB q.2 (Bs.map Zbt)=(numB q.2 Bs).map fun u=>(u.1,Zbt u.2):=numB_map _ _
  have hTN:((ot++(numB q.2 (Bs.map Zbt)).flatMap (·.2.t))++(on++(numB q.2 (Bs.map Zbt)).flatMap (·.2.n))).Perm ((ot++rt)++(on++rn)):=by
   rw[hnumB,c2,c3]
   simp only[List.flatMap_map]
   refine(List.perm_append4 _ _ _ _).trans (((List.Perm.refl _).append hperm).trans (List.perm_append4 _ _ _ _).symm)
  refine fin (fun _=>False) _ _ (Bs.map Zbt) ?_ rfl rfl (fun ρ hρ=>?_) (r2.mono fun y hy v t n h=>h.alone (by simpa using hsh2 y hy)) (fun _ h=>h.elim)
   ((hTN.nodup_iff).2 hnd) (fun g hg'=>?_) (fun g hg'=>?_) fun g hg'=>hlt g ((hTN.mem_iff).1 hg')
  ·rw[ZlZ,c1,hnumB]
   simp only[Us.blks,List.map_map]
   exact List.map_congr_left fun u _=>by simp only[Function.comp,ZoR,Option.map_some]
  ·obtain⟨d1,d2⟩:=c4 ρ fun u hu=>by
    have:=hρ (u.1,Zbt u.2) (by rw[hnumB];exact List.mem_map.2 ⟨u,hu,rfl⟩)
    rw[Zpu] at this;exact this
   refine⟨d1,fun u hu=>?_⟩
   rw[hnumB] at hu
   obtain⟨u0,hu0,rfl⟩:=List.mem_map.1 hu
   exact Zpw (d2 u0 hu0)
  ·have h9:=(hTN.mem_iff (a:=g)).1 (List.mem_append_left _ hg')
   rcases List.mem_append.1 h9 with h9 | h9
   ·exact hT g h9
   ·rcases hN g h9 with h | h
    ·exact absurd h (htn g)
    ·exact .inr h
  ·have h9:=(hTN.mem_iff (a:=g)).1 (List.mem_append_right _ hg')
   rcases List.mem_append.1 h9 with h9 | h9
   ·rcases hT g h9 with h | h
    ·exact absurd (List.mem_append_left _ h) (htn g)
    ·exact .inr h
   ·exact hN g h9
 | false=>
  rw[hdp] at hbs
  have hbs:(Zdx q.2 r.1).2=bs:=hbs
  subst hbs
  have hres:Rq3 cfg.tab w' (fun g=>(E.okA g∨E.mine g)∧g<w'.heap.size∧(∀id,id∉K++leak→g∉M.top id)∧g∉ot++rt) r.1 val rt rn∧
    OutL (Rq2 cfg.tab w' (fun g=>(E.okA g∨E.mine g)∧g<w'.heap.size∧(∀id,id∉K++leak→g∉M.top id)∧g∉ot++rt)) (Zbs aw vals) r.2 ot on:=by
   cases hsh:(ZeQ r.1||r.2.any ZcN) with
   | true=>
    have hS0:leak=S:=by rw[←hLk,hsh];rfl
    have hm:=fun g hg=>hmono g ⟨hg,hS0⟩
    exact⟨r1.keep hm,r2.mono fun y _ v t n h=>h.keep hm⟩
   | false=>
    simp only[Bool.or_eq_false_iff,List.any_eq_false] at hsh
    exact⟨r1.alone hsh.1,r2.mono fun y hy v t n h=>h.alone (by simpa using hsh.2 y hy)⟩
  obtain⟨r1',r2'⟩:=hres
  obtain⟨Bs,c0,c1,c2,c3,c4⟩:=(ZhX r1' q.2).numB
  exact fin _ rt rn Bs c1 c2 c3 c4 r2' (fun _ h=>h) hnd hT hN hlt
end
end Go.Eng
namespace Go.Eng
section
variable {P:Program}
def Slots (tab:Tab) (E:Entry) (M:Mem) (sl:Nat→V) (a:Act):Prop:=∀t,M.Rs tab E (sl t) (a.eval (.tmp t))
theorem Zpx {tab:Tab} {w:World} {ok:Nat→Prop} (v:Value):Rp tab w ok (ZjU v) v:=by
 unfold ZjU
 split
 ·exact .int _ _
 ·exact .bool _
 ·exact .str _ _ rfl
 ·exact .nil _ _
 ·exact .dead _
theorem ZoT {tab:Tab} {w:World} {ok:Nat→Prop} (v:Value):Rp tab w ok (ofValue v) v:=by
 unfold ofValue
 split
 ·exact .int _ _
 ·exact .bool _
 ·exact .str _ _ rfl
 ·exact .nil _ _
 ·exact .fn _ [] [] rfl (by simp)
 ·rename_i cs
  have h:=Rp.agg (tab:=tab) (w:=w) (ok:=ok) (cs.toList.map ZjU) cs.toList (by simp) fun j hj=>?_
  ·simpa using h
  ·simp at hj
   simp only[List.getD,List.getElem?_map,Array.getElem?_toList,Array.getElem?_eq_getElem hj,Option.map_some,Option.getD_some]
   exact Zpx _
 ·exact .dead _
theorem ev_rs {tab:Tab} {E:Entry} {M:Mem} {sl:Nat→V} {a:Act} (h:Slots tab E M sl a) (x:Operand):M.Rs tab E (ev sl x) (a.eval x):=by
 cases x with
 | tmp t=>exact h t
 | const v=>exact .tree (ZoT v)
 | func f=>exact .tree (.fn f [] [] rfl (by simp))
 | global g=>exact .tree (.dead _)
theorem Rs.soft {tab:Tab} {w:World} {ok:Nat→Prop} {ρ:Nat→Option RB} {x:V} {v:Value} (h:Rs tab w ok ρ x v):Rs tab w ok ρ x.soft v:=by
 cases h with
 | tree h=>exact .tree h.soft
 | sl id T off len sz N a a' cap n h1 h2 h3 h4 h5 h6=>exact .sl id T off len sz N a a' cap n h1 h2 h3 h4 h5 h6
 | bp id off g h=>exact .bp id off g h
 | rp id idx off T sz N g cap h1 h2=>exact .rp id idx off T sz N g cap h1 h2
 | agg cs vals h1 h2=>exact .agg cs vals h1 h2
 | tup cs vals h1 h2=>exact .tup cs vals h1 h2
 | fn f cs vals h1 h2=>exact .fn f cs vals h1 h2
theorem ZaA {tab:Tab} {E:Entry} {M:Mem} {sl:Nat→V} {a:Act} (h:Slots tab E M sl a) (x:Operand):M.Rs tab E (sft (ev sl) x) (a.eval x):=(ev_rs h x).soft
theorem Zmw {o:Oper} {a:Act} {w w':World} {v:Value} {next:Act→World→Prop} {Q:Exit→Act→World→Prop} (h:(execOp a.eval o).run P w = .ok (.value v) w') (hn:next (a.put o.dst v) w'):o.wp P a w next Q:=by
 simp only[Oper.wp,h];exact hn
theorem wp_skip' {o:Oper} {a:Act} {w w':World} {next:Act→World→Prop} {Q:Exit→Act→World→Prop} (h:(execOp a.eval o).run P w = .ok .skip w') (hn:next (a.put o.dst undef) w'):o.wp P a w next Q:=by
 simp only[Oper.wp,h];exact hn
theorem Zbi {s:Sem Value} {w w':World} {v:Value} (h:s.run P w = .ok v w'):(do pure (.value (←s)):Sem Next).run P w = .ok (.value v) w':=by
 simp only[Sem.run_bind,h,Result.andThen_ok,Sem.run_pure]
theorem run_u {s:Sem Unit} {w w':World} (h:s.run P w = .ok () w'):(do s;pure .skip:Sem Next).run P w = .ok .skip w':=by
 simp only[Sem.run_bind,h,Result.andThen_ok,Sem.run_pure]
def OpOk (tab:Tab) (E:Entry) (M:Mem) (o:Oper) (a:Act) (Ef:Eff):Act→World→Prop:=fun a' w'=>∃M' val,a'=a.put o.dst val∧M'.w=w'∧StepOk tab E M Ef val M'
section
variable {cfg:Cfg} {E:Entry} {M:Mem} {o:Oper} {a:Act} {Q:Exit→Act→World→Prop}
theorem Zbf (hM:MemOk cfg.tab E M) {x:V} {v:Value} (hr:(execOp a.eval o).run P M.w = .ok (.value v) M.w) (hv:M.Rs cfg.tab E x v):o.wp P a M.w (OpOk cfg.tab E M o a ⟨x,[]⟩) Q:=
 Zmw hr ⟨M,v,rfl,rfl, .same hM hv⟩
theorem ZdS {Ef:Eff} (h:∃M' val,(execOp a.eval o).run P M.w = .ok (.value val) M'.w∧StepOk cfg.tab E M Ef val M'):o.wp P a M.w (OpOk cfg.tab E M o a Ef) Q:=by
 obtain⟨M',val,hr,hs⟩:=h
 exact Zmw hr ⟨M',val,rfl,rfl,hs⟩
theorem op_unit {Ef:Eff} (h:∃M',(execOp a.eval o).run P M.w = .ok .skip M'.w∧StepOk cfg.tab E M Ef undef M'):o.wp P a M.w (OpOk cfg.tab E M o a Ef) Q:=by
 obtain⟨M',hr,hs⟩:=h
 exact wp_skip' hr ⟨M',_,rfl,rfl,hs⟩
theorem ZdL {m:RM V} {h:ZaG} {Ef:Eff} {log:List Nat} (e:RM.bind m (fun v=>RM.ret (⟨v,[]⟩:Eff)) h=some (Ef,log)):∃x l,m h=some (x,l)∧Ef=⟨x,[]⟩:=by
 obtain⟨x,l1,b1,l1',h1,h2,h3⟩:=Zj e
 cases Zm h2
 cases h3
 exact⟨x,l1,h1,rfl⟩
end
theorem Zkt {tab:Tab} {E:Entry} {M:Mem} {sl:Nat→V} {a:Act} (h:Slots tab E M sl a) (ps:Array (Nat×Operand)):
  (ps.map fun(i,x)=>(i,a.eval x)).toList.map (·.1)=(Zct (sft (ev sl)) ps).map (·.1)∧
  ∀k,k<(Zct (sft (ev sl)) ps).length→M.Rs tab E ((Zct (sft (ev sl)) ps).getD k (0, .dead)).2 ((ps.map fun(i,x)=>(i,a.eval x)).toList.getD k (0,undef)).2:=by
 refine⟨by simp[Zct],fun k hk=>?_⟩
 simp[Zct] at hk
 simp only[Zct,Array.toList_map,List.getD,List.getElem?_map,Array.getElem?_toList,Array.getElem?_eq_getElem hk,Option.map_some,Option.getD_some]
 exact ZaA h _
theorem ZgC {tab:Tab} {E:Entry} {M:Mem} {sl:Nat→V} {a:Act} (h:Slots tab E M sl a) (xs:List Operand):RsL tab M.w (okS E M) M.ρ (xs.map (sft (ev sl))) (xs.map a.eval):=by
 refine⟨by simp,fun j hj=>?_⟩
 simp at hj
 simp only[List.getD,List.getElem?_map,List.getElem?_eq_getElem hj,Option.map_some,Option.getD_some]
 exact ZaA h _
theorem RsL.append {tab:Tab} {w:World} {ok:Nat→Prop} {ρ:Nat→Option RB}:∀{xs:List V} {vs:List Value} {ys:List V} {us:List Value},RsL tab w ok ρ xs vs→RsL tab w ok ρ ys us→RsL tab w ok ρ (xs++ys) (vs++us)
 | [],[],_,_,_,h=>h
 | [],_ :: _,_,_,h,_=>by have:=h.1;simp at this
 | _ :: _,[],_,_,h,_=>by have:=h.1;simp at this
 | x :: xs,v :: vs,_,_,h,k=>.cons h.head.1 (RsL.append h.head.2 k)
theorem ZlB {f:FuncId} (h:Zfy P f) (args:Array Value) (w:World):(callFunc f args).run P w = .ok (.enter f args) w:=by
 obtain⟨fn,h1,h2,h3⟩:=h
 have h4:fn.name≠"runtime.NumGoroutine" := by simpa using h2
 have h5:fn.body≠none:=by intro e;rw[e] at h3;cases h3
 simp[callFunc,h1,h4,h5]
theorem ZoU {tab:Tab} {t t2:TypeId} {nid:Nat} {s x:V} {hp:ZaG} {Ef:Eff} {log:List Nat} (h:Ze5 tab t t2 nid s x hp=some (Ef,log)):nid∈Ef.upd.map (·.1):=by
 obtain⟨e,l1,b1,l1',h1,h2,h3⟩:=Zj h
 obtain⟨ty,l2,b2,l2',h4,h5,h6⟩:=Zj h2
 obtain⟨base,l3,b3,l3',h7,h8,h9⟩:=Zj h5
 obtain⟨more,l4,b4,l4',h10,h11,h12⟩:=Zj h8
 obtain⟨-,h13⟩:=Zw h11
 cases Zm h13
 cases h12;cases h9;cases h6;cases h3
 simp
theorem make_key {tab:Tab} {t:TypeId} {nid:Nat} {x y:V} {hp:ZaG} {Ef:Eff} {log:List Nat} (h:Zdy tab t nid x y hp=some (Ef,log)):nid∈Ef.upd.map (·.1):=by
 obtain⟨e,l1,b1,l1',h1,h2,h3⟩:=Zj h
 obtain⟨ty,l2,b2,l2',h4,h5,h6⟩:=Zj h2
 split at h5
 ·obtain⟨-,h13⟩:=Zw h5
  cases Zm h13
  cases h6;cases h3
  simp
 ·exact(Zo h5).elim
theorem Zl0 {cfg:Cfg} (hT:ZB P cfg.tab) {E:Entry} {M:Mem} (hM:MemOk cfg.tab E M) {nid:Nat} {b:Builtin} {ts:Array TypeId} {ot:TypeId} {cs:Array Bool} {xs:List V} {vs:List Value}
  (hr:RsL cfg.tab M.w (okS E M) M.ρ xs vs) {Ef:Eff} {log:List Nat} (h:ZeD cfg nid b ts.toList xs M.hp=some (Ef,log)) (hn:nid∈Ef.upd.map (·.1)→M.hp nid=none):
  ∃M' val,(builtin b ts ot cs vs.toArray).run P M.w = .ok (.value val) M'.w∧StepOk cfg.tab E M Ef val M':=by
 obtain⟨ts⟩:=ts
 simp only[] at h
 unfold ZeD at h
 split at h
 ·rename_i t x
  obtain⟨v,rfl⟩:∃v,vs=[v]:=by have:=hr.1;match vs,this with | [v],_=>exact⟨v,rfl⟩
  have hx:=hr.head.1
  obtain⟨ty,l1,b1,l1',h1,h2,h3⟩:=Zj h
  cases h3
  obtain⟨h1,-⟩:=Zu h1
  obtain⟨h2a,h2b⟩:=Zw h2
  obtain⟨y,l,h4,rfl⟩:=ZdL h2b
  simp only[lenTy,Bool.and_eq_true,Bool.not_eq_true'] at h2a
  obtain⟨ha,hk⟩:=h2a
  have hu:((∃e,P.underlying t=some (.slice e))∨P.underlying t=some .string)∧((∃l,x = .str l)↔P.underlying t=some .string):=by
   have hty:=hT t ty h1
   by_cases hs:∃l,x = .str l
   ·obtain⟨l,rfl⟩:=hs
    have:ty.kinds=[.str]:=by
     simp only[] at hk
     split at hk
     ·assumption
     ·cases hk
    exact⟨.inr (hty.strs ha this),fun _=>hty.strs ha this,fun _=>⟨l,rfl⟩⟩
   ·have:∃e,ty.kinds=[.sl e]:=by
     split at hk
     ·exact absurd ⟨_,rfl⟩ hs
     ·split at hk
      ·exact⟨_,‹_›⟩
      ·cases hk
    obtain⟨e,he⟩:=this
    have hsl:=hty.slice e ha he
    exact⟨.inl ⟨e,hsl⟩,fun h=>absurd h hs,fun h=>by rw[hsl] at h;cases h⟩
  obtain⟨v',hrun,hv⟩:=Zpn (ot:=ot) (ts:=#[t]) hM rfl hu.1 hu.2 hx h4
  exact⟨M,v',Zbi hrun, .same hM hv⟩
 ·rename_i t t2 s x
  obtain⟨v,u,rfl⟩:∃v u,vs=[v,u]:=by have:=hr.1;match vs,this with | [v,u],_=>exact⟨v,u,rfl⟩
  obtain⟨M',val,h1,h2⟩:=Zmq (ot:=ot) hT hM (hn (ZoU h)) hr.head.1 hr.head.2.head.1 h
  exact⟨M',val,Zbi h1,h2⟩
 ·rename_i t t2 d s
  obtain⟨v,u,rfl⟩:∃v u,vs=[v,u]:=by have:=hr.1;match vs,this with | [v,u],_=>exact⟨v,u,rfl⟩
  obtain⟨M',val,h1,h2⟩:=ZoP (t2:=t2) (ot:=ot) hT hM hr.head.1 hr.head.2.head.1 h
  exact⟨M',val,Zbi h1,h2⟩
 ·rename_i t d
  obtain⟨v,rfl⟩:∃v,vs=[v]:=by have:=hr.1;match vs,this with | [v],_=>exact⟨v,rfl⟩
  obtain⟨M',val,h1,h2⟩:=ZnL (ot:=ot) hT hM hr.head.1 h
  exact⟨M',val,Zbi h1,h2⟩
 ·obtain⟨v,u,rfl⟩:∃v u,vs=[v,u]:=by have:=hr.1;match vs,this with | [v,u],_=>exact⟨v,u,rfl⟩
  obtain⟨-,h2⟩:=Zw h
  cases Zm h2
  have h1:=hr.head.1.int
  have h2:=hr.head.2.head.1.int
  subst h1 h2
  exact⟨M,_,Zbi (by simp[Builtin.min_,Builtin.min2]), .same hM (.tree (.int _ _))⟩
 ·obtain⟨v,u,rfl⟩:∃v u,vs=[v,u]:=by have:=hr.1;match vs,this with | [v,u],_=>exact⟨v,u,rfl⟩
  obtain⟨-,h2⟩:=Zw h
  cases Zm h2
  have h1:=hr.head.1.int
  have h2:=hr.head.2.head.1.int
  subst h1 h2
  exact⟨M,_,Zbi (by simp[Builtin.max_,Builtin.max2]), .same hM (.tree (.int _ _))⟩
 ·exact(Zo h).elim
theorem ZnQ {tab:Tab} {E:Entry} {M:Mem} (hM:MemOk tab E M) {w':World} (hk:KeptBut [] M.w w'):MemOk tab E { M with w:=w' }∧MemLe E M { M with w:=w' }:=by
 refine hM.move (M':={ M with w:=w' }) (fun _=>False) (fun _ _=>⟨rfl,rfl,rfl,rfl⟩) (fun _ _ h=>h) (fun g hg=>hk.block g hg.2.1 (by simp)) (fun id _ g hg=>hk.block g (hM.mine id g hg).2 (by simp))
  ⟨hk.os,hk.tape,hk.output,hk.size,fun g hg hn=>absurd (List.mem_range.2 hg) hn⟩ (fun g hg _=>hk.block g (Nat.lt_of_lt_of_le hg hM.kept.size) (by simp)) (fun _ h=>h.elim) (fun _ h=>h.elim) (fun _ h=>h.elim) (fun _ _ h=>h.elim) (fun _ h=>h.elim) (fun _ h=>h.elim) (fun _ _ h=>h.elim)
theorem ZjF (w:World) (t e g:Nat) (C:Array Value) (n c:Nat) (ht:P.underlying t=some (.slice e)) (he:P.underlying e=some (.int .u8)) (fr:Nat×Nat) (hg:w.heap[g]? = some (.cells C e fr)):
  (convert t t (.slice (some ⟨g,0,none⟩) n c)).run P w = .ok (.slice (some ⟨g,0,none⟩) n c) (w.freeze ⟨g,C.size,none⟩ 1):=by
 have hsh:w.shape? g=some (e,C.size):=by simp[World.shape?,hg]
 simp[convert,run_underlying ht,run_underlying he,markStringish,shape,Sem.run,hsh,freeze]
 try rfl
theorem Zgk (w:World) (a:Addr) (n k:Nat) (h:k≠a.block):(w.freeze a n).heap[k]? = w.heap[k]?:=by
 unfold World.freeze
 split
 ·rfl
 ·simp[Array.getElem?_modify,h.symm]
theorem ZnR (w:World) (a:Addr) (n:Nat) (b:Addr):(w.freeze a n).cell? b=w.cell? b:=by
 unfold World.freeze
 split
 ·rfl
 ·unfold World.cell?
  simp only[Array.getElem?_modify]
  by_cases hb:a.block=b.block
  ·rw[if_pos hb]
   cases w.heap[b.block]? with
   | none=>rfl
   | some o=>cases o <;> rfl
  ·rw[if_neg hb]
theorem Zmx {tab:Tab} (hT:ZB P tab) {E:Entry} {M:Mem} (hM:MemOk tab E M) {src dst id T:Nat} {xv:Value} {Ef:Eff} {log:List Nat} (hx:M.Rs tab E (.sl id T 0 none) xv) (h:Zh6 tab src dst id M.hp=some (Ef,log)):
  ∃M' val,(convert src dst xv).run P M.w = .ok val M'.w∧StepOk tab E M Ef val M':=by
 obtain⟨s,l1,b1,l1',h1,h2,h3⟩:=Zj h
 obtain⟨h1,-⟩:=Zu h1
 obtain⟨e,l2,b2,l2',h4,h5,h6⟩:=Zj h2
 obtain⟨h4,-⟩:=Zu h4
 obtain⟨et,l3,b3,l3',h7,h8,h9⟩:=Zj h5
 obtain⟨h7,-⟩:=Zu h7
 obtain⟨blk,l4,b4,l4',h10,h11,h12⟩:=Zj h8
 obtain⟨hb,-⟩:=ZaH h10
 cases blk with
 | box _ _=>exact(Zo h11).elim
 | drow _ _=>exact(Zo h11).elim
 | hrow _ _ _ _ _=>exact(Zo h11).elim
 | grow _ _=>exact(Zo h11).elim
 | row T' own els=>
  obtain⟨h13,h14⟩:=Zw h11
  cases Zm h14
  cases h12;cases h9;cases h6;cases h3
  simp only[Bool.and_eq_true,Bool.not_eq_true',decide_eq_true_eq] at h13
  obtain⟨a1,a2,a3,a4,rfl,a6⟩:=h13
  obtain rfl:=Nat.eq_of_beq_eq_true a1
  have hs:s.kinds=[.sl T']:=by
   unfold Zj7 at h4
   split at h4
   ·cases h4;assumption
   ·cases h4
  have hne:0<els.length:=by
   cases els with
   | nil=>simp at a6
   | cons _ _=>simp
  have hu:=(hT src s h1).slice T' a2 hs
  have he:=(hT T' et h7).int .u8 a3 a4
  obtain⟨ty,a,a',cap,n,q1,q2,q3,q4,q5,q6,q7,rfl,q8,q9⟩:=hM.sl hx hb
  obtain rfl:et=ty:=Option.some.inj (h7.symm.trans q1)
  obtain⟨g,rfl,q10,q11⟩:=q9 hne
  obtain rfl:=q7 rfl
  obtain rfl:n=els.length:=by simpa using q4
  obtain⟨ty2,v,xs,k1,k2,k3,k4,k5,k6,k7⟩:=hM.row hb
  obtain rfl:et=ty2:=Option.some.inj (h7.symm.trans k1)
  obtain rfl:v = .slice (some ⟨g,0,none⟩) els.length cap:=by rw[q2] at k2;cases k2;rfl
  obtain⟨cur,fr,hg⟩:∃(cur:Array Value) (fr:Nat×Nat),M.w.heap[g]? = some (.cells cur T' fr):=by
   rcases k3.2 with⟨a,e1,h0⟩ | ⟨g',cap',cur,e1,_,hg,_⟩
   ·omega
   ·cases e1;obtain⟨fr,hg,-⟩:=hg;exact⟨cur,fr,hg⟩
  have hrun:=ZjF (P:=P) M.w src T' g cur els.length cap hu he fr hg
  have hgi:g∈M.top id:=by rw[q10];simp
  have hsz:(M.w.freeze ⟨g,cur.size,none⟩ 1).heap.size=M.w.heap.size:=by simp[World.freeze]
  have main:=hM.move (M':={ w:=M.w.freeze ⟨g,cur.size,none⟩ 1,ρ:=M.ρ,top:=fun i=>if i=id then[] else M.top i,nest:=fun i=>if i=id then[] else M.nest i,hp:=fun i=>if i=id then some none else M.hp i })
   (fun i=>i=id) (fun i hi=>by simp[hi]) (fun _ _ h=>h) (fun g' hg'=>Zgk _ _ _ _ (fun e=>hg'.2.2 id (e▸hgi))) (fun i hi g' hg'=>Zgk _ _ _ _ (fun e=>hM.apart i id hi g' hg' (by rw[e];exact List.mem_append_left _ hgi)))
   ⟨by simp[World.freeze],by simp[World.freeze],by simp[World.freeze],by rw[hsz];exact Nat.le_refl _,fun g' hg' hn=>absurd (List.mem_range.2 hg') hn⟩
   (fun g' hg' hF=>Zgk _ _ _ _ fun e=>by
    rcases hM.mineT id g hgi with h | h
    ·exact hF (e▸h)
    ·have e:g'=g:=e
     omega)
   (fun i hi g' hg'=>by subst hi;simp at hg') (fun i hi g' hg'=>by subst hi;simp at hg') (fun i hi=>by subst hi;simp) (fun i i' hi hi' hne=>absurd (hi.trans hi'.symm) hne) (fun i hi g' hg'=>by subst hi;simp at hg')
   (fun i hi=>by subst hi;simp) (fun hle i hi b hbb=>by subst hi;simp at hbb)
  obtain⟨m1,m2⟩:=main
  refine⟨_,_,hrun,m1,m2,?_, .tree ?_⟩
  ·funext i
   simp only[ZW]
  ·refine .inl T' els et (some ⟨g,0,none⟩) (cap-0) g 0 (fun i j=>xs.getD (i*et.kinds.length+j) undef) h7 (by omega) (fun _=>⟨rfl,?_⟩) k4 (fun i j hi hj=>?_) fun i j hi hj=>(k7 i j hi hj).keep m2.ok m2.same
   ·have:=hM.mine id g (List.mem_append_left _ hgi)
    refine⟨.inr this.1,by rw[hsz];exact this.2,fun i hi=>?_⟩
    simp only at hi
    split at hi
    ·simp at hi
    ·rename_i hne;exact hM.apart i id hne g (List.mem_append_left _ hi) (List.mem_append_left _ hgi)
   ·rw[ZnR,Nat.zero_add]
    obtain⟨g',cap',e1,_,_,hc⟩:=k3.cell (i*et.kinds.length+j) (ZbK hi hj)
    cases e1
    exact hc
theorem Zlf {tab:Tab} (hT:ZB P tab) {E:Entry} {M:Mem} (hM:MemOk tab E M) {src dst:TypeId} {l:List V} {xv:Value} {Ef:Eff} {log:List Nat} (hx:M.Rs tab E (.str l) xv) (h:ZjB tab src dst l M.hp=some (Ef,log)):
  ∃M' val,(convert src dst xv).run P M.w = .ok val M'.w∧StepOk tab E M Ef val M':=by
 obtain⟨s,l1,b1,l1',h1,h2,h3⟩:=Zj h
 obtain⟨h1,-⟩:=Zu h1
 obtain⟨e,l2,b2,l2',h4,h5,h6⟩:=Zj h2
 obtain⟨h4,-⟩:=Zu h4
 obtain⟨et,l3,b3,l3',h7,h8,h9⟩:=Zj h5
 obtain⟨h7,-⟩:=Zu h7
 obtain⟨h10,h11⟩:=Zw h8
 cases Zm h11
 cases h9;cases h6;cases h3
 simp only[Bool.and_eq_true,Bool.not_eq_true',decide_eq_true_eq] at h10
 obtain⟨a1,a2,a3,a4⟩:=h10
 obtain⟨dty,h12,h13⟩:=Option.bind_eq_some_iff.1 h4
 obtain⟨bs,rfl,rfl⟩:=hx.str
 have hs:=(hT src s h1).strs a1 a2
 have hd:=((hT dst dty h12).elem e h13).1
 have he:=(hT e et h7).int .u8 a3 a4
 have hrun:=Go.Lib.run_convert_string_bytes (P:=P) M.w src dst e bs hs hd he
 have hcap:=grownCap_ge M.w bs.size 0 e
 have hk:KeptBut [] M.w (Go.Lib.bytesWorld M.w e bs):=⟨rfl,rfl,rfl,by rw[Go.Lib.bytesWorld_size];omega,fun g hg _=>Go.Lib.bytesWorld_at_old M.w e bs g hg⟩
 obtain⟨m1,m2⟩:=ZnQ hM hk
 have hlen:(Z9 bs).length=bs.size:=by
  unfold Z9
  rw[List.length_map,Array.length_toList];rfl
 have hget:∀i,i<bs.size→(Z9 bs).getD i .dead = .int .u8 ((bs.data.toList.getD i 0).toNat:Int):=fun i hi=>by
  have:i<bs.data.toList.length:=by rw[Array.length_toList];exact hi
  unfold Z9
  simp only[List.getD,List.getElem?_map,List.getElem?_eq_getElem this,Option.map_some,Option.getD_some]
 refine⟨_,_,hrun,m1,m2,rfl, .tree ?_⟩
 have:=Rp.inl (tab:=tab) (w:=Go.Lib.bytesWorld M.w e bs) (ok:=okS E { M with w:=Go.Lib.bytesWorld M.w e bs }) e (Z9 bs) et (some ⟨M.w.heap.size,0,none⟩) (grownCap M.w bs.size 0 e) M.w.heap.size 0
  (fun i _=>.int .u8 ((bs.data.toList.getD i 0).toNat:Int)) h7 (by rw[hlen];omega) (fun _=>⟨rfl, .inr (.inr hM.kept.size),by rw[Go.Lib.bytesWorld_size];omega,fun id hid=>by have:=(hM.mine id _ (List.mem_append_left _ hid)).2;omega⟩)
  (fun i hi=>by
   rw[hlen] at hi
   rw[hget i hi]
   refine⟨by rw[a4];rfl,fun hc=>(by rw[a3] at hc;cases hc),fun _ cs hc=>(by cases hc),fun j hj=>?_⟩
   rw[a4] at hj ⊢
   have:j=0:=by simpa using hj
   subst this;rfl) (fun i j hi hj=>by
   rw[hlen] at hi
   rw[a4] at hj ⊢
   have:j=0:=by simpa using hj
   subst this
   have:=Go.Lib.bytesWorld_cell M.w e bs i hi
   rw[show 0+i*[Ck.int IntKind.u8].length+0=i from by simp]
   exact this) (fun i j hi hj=>by
   rw[hlen] at hi
   rw[a4] at hj
   have:j=0:=by simpa using hj
   subst this
   rw[hget i hi]
   exact .int _ _)
 rw[hlen] at this
 exact this
theorem Zl1 {tab:Tab} {nid:Nat} {src dst:TypeId} {l:List V} {H:ZaG} {Ef:Eff} {log:List Nat} (h:Zgz tab nid src dst l H=some (Ef,log)):nid∈Ef.upd.map (·.1):=by
 obtain⟨s,l1,b1,l1',h1,h2,h3⟩:=Zj h
 obtain⟨e,l2,b2,l2',h4,h5,h6⟩:=Zj h2
 obtain⟨et,l3,b3,l3',h7,h8,h9⟩:=Zj h5
 obtain⟨h10,h11⟩:=Zw h8
 obtain⟨hroom,h11⟩:=Zw h11
 cases Zm h11
 cases h9;cases h6;cases h3
 simp
theorem Zku {tab:Tab} (hT:ZB P tab) {E:Entry} {M:Mem} (hM:MemOk tab E M) {nid:Nat} (hn:nid∈[nid]→M.hp nid=none) {src dst:TypeId} {l:List V} {xv:Value} {Ef:Eff} {log:List Nat} (hx:M.Rs tab E (.str l) xv) (h:Zgz tab nid src dst l M.hp=some (Ef,log)):
  ∃M' val,(convert src dst xv).run P M.w = .ok val M'.w∧StepOk tab E M Ef val M':=by
 obtain⟨s,l1,b1,l1',h1,h2,h3⟩:=Zj h
 obtain⟨h1,-⟩:=Zu h1
 obtain⟨e,l2,b2,l2',h4,h5,h6⟩:=Zj h2
 obtain⟨h4,-⟩:=Zu h4
 obtain⟨et,l3,b3,l3',h7,h8,h9⟩:=Zj h5
 obtain⟨h7,-⟩:=Zu h7
 obtain⟨h10,h11⟩:=Zw h8
 obtain⟨hroom,h11⟩:=Zw h11
 cases Zm h11
 cases h9;cases h6;cases h3
 simp only[Bool.and_eq_true,Bool.not_eq_true',decide_eq_true_eq] at h10
 obtain⟨a1,a2,a3,a4,a5⟩:=h10
 obtain rfl:=Nat.eq_of_beq_eq_true a5
 obtain⟨dty,h12,h13⟩:=Option.bind_eq_some_iff.1 h4
 have hx0:=hx
 obtain⟨bs,rfl,rfl⟩:=hx.str
 have hs:=(hT src s h1).strs a1 a2
 have hd:=((hT dst dty h12).elem ZbJ h13).1
 have he:=(hT ZbJ et h7).int .u8 a3 a4
 have hrun:=Go.Lib.run_convert_string_bytes (P:=P) M.w src dst ZbJ bs hs hd he
 have hcap:=grownCap_ge M.w bs.size 0 ZbJ
 have hlen:(Z9 bs).length=bs.size:=by
  unfold Z9
  rw[List.length_map,Array.length_toList];rfl
 have hr2:bs.size≤9223372036854775807∧bs.size*1≤140737488355328:=by
  rw[hlen] at hroom;simpa [Zv] using hroom
 have hcm:grownCap M.w bs.size 0 ZbJ≤maxLen:=grownCap_le_maxLen M.w bs.size 0 ZbJ (by simp only[maxLen];omega)
 have hflat:et.kinds.all Ck.flat=true:=by rw[a4];rfl
 have hk1:et.kinds.length=1:=by rw[a4];rfl
 have hsl:ZeC ZbJ et (.str (Z9 bs)) M.hp=some (Z9 bs,[]):=by
  rw[rm_at];simp[ZeC,RM.test,RM.ret,ZdT,a3,a4]
 obtain⟨news,f1,f2,f3⟩:=Zd6 (P:=P) hM h7 hx0 hsl
 have hnews:news=bs.data.toList.map fun b=>.int .u8 (b.toNat:Int):=by
  have:=f3 bs.size (by rw[hlen];exact Nat.le_refl _) M.w fun _ _=>rfl
  have hnl:news.length=bs.size:=by rw[f1.1,hlen,hk1,Nat.mul_one]
  rw[hk1,Nat.mul_one,←hnl,List.take_length] at this
  simp only[Builtin.firstCells,Sem.run_pure,Result.ok.injEq,and_true] at this
  have h2:=congrArg Array.toList this
  simp only at h2
  rw[←h2,hnl]
  simp
 have hrow:RowIs (Go.Lib.bytesWorld M.w ZbJ bs) ZbJ et.kinds.length (Z9 bs).length (.slice (some ⟨M.w.heap.size,0,none⟩) bs.size (grownCap M.w bs.size 0 ZbJ)) news:=by
  refine⟨f1.1,?_⟩
  by_cases h0:grownCap M.w bs.size 0 ZbJ=0
  ·have:bs.size=0:=by omega
   rw[h0,this]
   exact .inl ⟨_,rfl,by rw[hlen];exact this⟩
  ·refine .inr ⟨M.w.heap.size,_,Go.Lib.bytesCells M.w ZbJ bs,by rw[hlen],by omega,⟨_,Go.Lib.bytesWorld_at_new M.w ZbJ bs, .inr ⟨rfl,Nat.le_refl _⟩⟩,by rw[hlen];exact hcap,hcm,?_,?_⟩
   ·rw[hk1,Nat.mul_one]
    have:bs.data.size=bs.size:=rfl
    simp only[Go.Lib.bytesCells,Array.size_append,Array.size_map,Array.size_replicate,this];omega
   ·rw[hlen,hk1,Nat.mul_one,hnews]
    have:bs.data.size=bs.size:=rfl
    unfold Go.Lib.bytesCells
    rw[Array.toList_append,Array.toList_map,List.take_left' (by rw[List.length_map,Array.length_toList];exact this)]
 obtain⟨M',hw,hstep⟩:=Zhv (K:=[]) (Kt:=[]) hM (hn (by simp)) h7 (Elems.flat hflat f1) (by simp) hrow rfl rfl rfl (by rw[Go.Lib.bytesWorld_size];omega) [] (by simp)
  (fun g hg _=>Go.Lib.bytesWorld_at_old M.w ZbJ bs g hg) (fun g hg=>.inr (by
   have e:g=M.w.heap.size:=by
    generalize grownCap M.w bs.size 0 ZbJ=c at hg
    cases c with
    | zero=>simp[Zr] at hg
    | succ c=>simpa [Zr] using hg
   omega)) (fun _ g hg=>by simp) (by simp)
 exact⟨M',_,by rw[hw];exact hrun,hstep⟩
theorem Zpy {tab:Tab} {t:TypeId} {op:BinOp} {x y r:V} (h0:Zhm op y=true) (h:binL tab t op x y=some r):Zek tab t op x y=some r:=by
 unfold binL at h
 split at h
 ·rename_i k a k' b
  simp[Zhm] at h0
  simp only[Zek,divs]
  split at h
  ·rename_i e;simp only[e,if_true,h0,if_false];rw[←h,e]
  ·cases h
 ·rename_i k a k' b
  simp[Zhm] at h0
  simp only[Zek,divs]
  split at h
  ·rename_i e;simp only[e,if_true,h0,if_false];rw[←h,e]
  ·cases h
 ·rename_i k a k' b
  have:¬b<0:=by simpa [Zhm] using h0
  simp only[Zek,ZjV,this,if_false];exact h
 ·rename_i k a k' b
  have:¬b<0:=by simpa [Zhm] using h0
  simp only[Zek,ZjV,this,if_false];exact h
 ·exact h
theorem Zpz {tab:Tab} {w:World} {ok:Nat→Prop} {ρ:Nat→Option RB} (hT:ZB P tab) {op:BinOp} {t e:TypeId} {ox oy:Operand} {x r:V} {xv:Value} (he:(tab t).bind (·.elem)=some e) (hx:Rs tab w ok ρ x xv) (h:nilV op x=some r):
  ∃v,(do eqGuard op t ox oy xv (.slice none 0 0);binOp op t xv (.slice none 0 0):Sem Value).run P w = .ok v w∧Rs tab w ok ρ r v:=by
 obtain⟨ty,h1,h2⟩:=Option.bind_eq_some_iff.1 he
 have hu:=((hT t ty h1).elem e h2).1
 have hg:∀a n c,(eqGuard op t ox oy (.slice a n c) (.slice none 0 0)).run P w = .ok () w:=fun a n c=>by unfold eqGuard;cases op <;> rfl
 have hq0:∀d a n c,(Op.equalIn (d+1) t (.slice a n c) (.slice none 0 0)).run P w = .ok a.isNone w:=fun d a n c=>by
  cases a <;> simp[Op.equalIn,run_underlying hu]
 have hq:∀a n c,(Op.equal t (.slice a n c) (.slice none 0 0)).run P w = .ok a.isNone w:=fun a n c=>hq0 9999 a n c
 unfold nilV at h
 split at h
 ·cases h
  cases hx with | tree hx=>cases hx with | nl T ty cap _=>
  exact⟨.bool true,by simp[hg,binOp,hq], .tree (.bool _)⟩
 ·cases h
  cases hx with | tree hx=>cases hx with | nn T l a n cap _=>
  exact⟨.bool false,by simp[hg,binOp,hq], .tree (.bool _)⟩
 ·cases h
  cases hx with | tree hx=>cases hx with | nl T ty cap _=>
  exact⟨.bool false,by simp[hg,binOp,hq], .tree (.bool _)⟩
 ·cases h
  cases hx with | tree hx=>cases hx with | nn T l a n cap _=>
  exact⟨.bool true,by simp[hg,binOp,hq], .tree (.bool _)⟩
 ·cases h
end
end Go.Eng
namespace Go.Eng
section
variable {P:Program} {tab:Tab}
theorem Zkv {T:TypeId} {ty:Ty} (hty:TyOk P tab T ty) {l:List V} (hsh:∀i,i<l.length→ZbS ty (l.getD i .dead)) {idx off:Nat} (hi:idx<l.length) {cs:List V}
  (hfit:off+cs.length≤ty.kinds.length) (hk:∀j,j<cs.length→kindOk (ty.kinds.getD (off+j) .other) (cs.getD j .dead)):
  (∀i,i<l.length→ZbS ty ((l.set idx (Eng.mk ty.agg (Z6 (ZV ty.kinds (l.getD idx .dead)) off cs))).getD i .dead))∧
  ∀i j,((l.set idx (Eng.mk ty.agg (Z6 (ZV ty.kinds (l.getD idx .dead)) off cs))).getD i .dead).cell j =
   if i=idx∧off≤j∧j<off+cs.length then cs.getD (j-off) .dead else(l.getD i .dead).cell j:=by
 have hrc:ZV ty.kinds (l.getD idx .dead)=(l.getD idx .dead).cells:=Zfi (hsh idx hi)
 have hrl:(ZV ty.kinds (l.getD idx .dead)).length=ty.kinds.length:=ZaT _ _ _
 have hsl:(Z6 (ZV ty.kinds (l.getD idx .dead)) off cs).length=ty.kinds.length:=by rw[ZcQ _ _ _ (by omega),hrl]
 have hsg:∀j,(Z6 (ZV ty.kinds (l.getD idx .dead)) off cs).getD j .dead=if off≤j∧j<off+cs.length then cs.getD (j-off) .dead else(l.getD idx .dead).cell j:=by
  intro j
  have:=Zb5 (ZV ty.kinds (l.getD idx .dead)) cs off j .dead (by omega)
  unfold Z6;rw[this,hrc];rfl
 have hkk:∀j,j<ty.kinds.length→kindOk (ty.kinds.getD j .other) ((Z6 (ZV ty.kinds (l.getD idx .dead)) off cs).getD j .dead):=by
  intro j hj
  rw[hsg]
  by_cases hc:off≤j∧j<off+cs.length
  ·rw[if_pos hc]
   have:=hk (j-off) (by omega)
   rwa [show off+(j-off)=j from by omega] at this
  ·rw[if_neg hc];exact(hsh idx hi).2.2.2 j hj
 obtain⟨hshape,hcells⟩:=Zhw hty hsl hkk
 have hget:∀i,(l.set idx (Eng.mk ty.agg (Z6 (ZV ty.kinds (l.getD idx .dead)) off cs))).getD i .dead=if i=idx then Eng.mk ty.agg (Z6 (ZV ty.kinds (l.getD idx .dead)) off cs) else l.getD i .dead:=by
  intro i
  by_cases e:i=idx
  ·subst e;simp[List.getD,hi]
  ·simp[List.getD,e,Ne.symm e]
 refine⟨fun i hi'=>?_,fun i j=>?_⟩
 ·rw[hget]
  split
  ·exact hshape
  ·exact hsh i hi'
 ·rw[hget]
  by_cases e:i=idx
  ·subst e
   rw[if_pos rfl,V.cell,hcells,hsg]
   by_cases hc:off≤j∧j<off+cs.length
   ·rw[if_pos hc,if_pos ⟨rfl,hc⟩]
   ·rw[if_neg hc,if_neg fun h=>hc h.2]
  ·rw[if_neg e,if_neg fun h=>e h.1]
theorem Ro.sl_inv {w:World} {e:TypeId} {x:V} {v:Value} {F:List Nat} (h:Ro tab w x v F) (hk:kindOk (.sl e) x):
  ∃l ty xs G,x = .inl e l∧tab e=some ty∧RowIs w e ty.kinds.length l.length v xs∧(∀i,i<l.length→ZbS ty (l.getD i .dead))∧
   (∀i j,i<l.length→j<ty.kinds.length→Ro tab w ((l.getD i .dead).cell j) (xs.getD (i*ty.kinds.length+j) undef) (G i j))∧F=Zr v++ZD l.length ty.kinds.length G:=by
 cases h with
 | int=>simp[kindOk] at hk
 | bool=>simp[kindOk] at hk
 | str=>simp[kindOk] at hk
 | inl T l ty v xs G h1 h2 h3 h4=>
  simp only[kindOk] at hk
  subst hk
  exact⟨l,ty,xs,G,rfl,h1,h2,h3,h4,rfl⟩
theorem Ro.flat_inv {w:World} {k:Ck} {x:V} {v:Value} {F:List Nat} (h:Ro tab w x v F) (hk:kindOk k x) (hf:k.flat=true):F=[]∧∀ok,Rp tab w ok x v:=by
 cases h with
 | int k n=>exact⟨rfl,fun _=>.int _ _⟩
 | bool b=>exact⟨rfl,fun _=>.bool _⟩
 | str l s h=>exact⟨rfl,fun _=>.str _ _ h⟩
 | inl T l ty v xs G h1 h2 h3 h4=>cases k <;> simp[kindOk,Ck.flat] at hk hf
theorem ZgS {n m:Nat} {F G:Nat→Nat→List Nat} {idx off:Nat} (h:∀i j,(i≠idx∨j≠off)→F i j=G i j) {g:Nat} (hg:g∈ZD n m F):g∈ZD n m G∨(g∈F idx off∧idx<n∧off<m):=by
 obtain⟨i,hi,j,hj,hg⟩:=mem_flatF.1 hg
 by_cases e:i=idx∧j=off
 ·obtain⟨rfl,rfl⟩:=e
  exact .inr ⟨hg,hi,hj⟩
 ·refine .inl (mem_flatF.2 ⟨i,hi,j,hj,?_⟩)
  rwa [←h i j (by by_cases e1:i=idx;exact .inr fun e2=>e ⟨e1,e2⟩;exact .inl e1)]
theorem Zfz {hp:ZaG} {id j:Nat} {b:Blk} (i:Nat):ZW hp [(j,none),(id,some b)] i=if i=id then some (some b) else if i=j then some none else hp i:=by
 simp[ZW]
theorem Zij {hp:ZaG} {id j:Nat} {b c:Blk} (i:Nat):ZW hp [(j,some c),(id,some b)] i=if i=id then some (some b) else if i=j then some (some c) else hp i:=by
 simp[ZW]
theorem Zmy (hT:ZB P tab) {E:Entry} {M:Mem} (hM:MemOk tab E M) {id j idx off:Nat} {T T':TypeId} {els l:List V} {ty:Ty} (ht:tab T=some ty)
  (hb:M.hp id=some (some (.hrow T els idx off j))) (hj:M.hp j=some (some (.drow T' l))) (hne:j≠id):
  ∃M',M'.w=M.w∧M'.ρ=M.ρ∧MemOk tab E M'∧MemLe E M M'∧M'.hp=ZW M.hp [(j,none),(id,some (.drow T (Zed ty.kinds ty.agg els idx off (.inl T' l))))]:=by
 obtain⟨ty1,v,xs,F,e,ty2,N,h1,h2,h3,h4,h5,h6,h7,h8,h9,h10,h11,h12,h13⟩:=hM.blocks id _ hb
 obtain rfl:ty=ty1:=Option.some.inj (ht.symm.trans h1)
 obtain⟨ty3,vj,xsj,Fj,k1,k2,k3,k4,k5,k6,k7,k8⟩:=hM.drow hj
 have hrb:=k2.symm.trans h9
 simp only[Option.some.injEq,RB.row.injEq] at hrb
 obtain⟨rfl,-,rfl,hvj⟩:=hrb
 have hro:Ro tab M.w (.inl T' l) (xs.getD (idx*ty.kinds.length+off) undef) (M.top j):=by
  rw[k6,←hvj];exact .inl T' l ty3 vj xsj Fj k1 k3 k4 k5
 obtain⟨s1,s2⟩:=Zkv (hT T ty ht) h4 h5 (off:=off) (cs:=[.inl T' l]) (by simp only[List.length_singleton];omega) (fun j hj=>by
  obtain rfl:j=0:=by simpa using hj
  rw[Nat.add_zero,h7];rfl)
 let G:Nat→Nat→List Nat:=fun i k=>if i=idx∧k=off then M.top j else F i k
 have hG:∀i k,(i≠idx∨k≠off)→G i k=F i k:=fun i k h=>if_neg fun h'=>by rcases h with h | h;exact h h'.1;exact h h'.2
 have hG0:G idx off=M.top j:=if_pos ⟨rfl,rfl⟩
 let M':Mem:={ w:=M.w,ρ:=M.ρ,top:=fun i=>if i=id then Zr v++ZD els.length ty.kinds.length G else if i=j then[] else M.top i,nest:=M.nest,hp:=ZW M.hp [(j,none),(id,some (.drow T (Zed ty.kinds ty.agg els idx off (.inl T' l))))] }
 have htid:M'.top id=Zr v++ZD els.length ty.kinds.length G:=if_pos rfl
 have htj:M'.top j=[]:=by show(if j=id then _ else if j=j then[] else M.top j)=[];rw[if_neg hne,if_pos rfl]
 have hmem:∀g,g∈Zr v++ZD els.length ty.kinds.length G→g∈M.top id∨g∈M.top j:=by
  intro g hg
  rcases List.mem_append.1 hg with hg | hg
  ·exact .inl (by rw[h12];exact List.mem_append_left _ hg)
  ·rcases ZgS hG hg with hg | ⟨hg,-,-⟩
   ·exact .inl (by rw[h12];exact List.mem_append_right _ hg)
   ·exact .inr (by rwa [hG0] at hg)
 have hlen:(Zed ty.kinds ty.agg els idx off (.inl T' l)).length=els.length:=List.length_set
 have hnid:=hM.nodup id
 rw[h12,h13,List.append_nil] at hnid
 obtain⟨n1,n2,n3⟩:=List.nodup_append.1 hnid
 obtain⟨c1,c2⟩:=nodup_flatF.1 n2
 have hap:∀g,g∈M.top j→g∉M.top id:=fun g hg hg'=>hM.apart j id hne g (List.mem_append_left _ hg) (List.mem_append_left _ hg')
 have hnj:(M.top j).Nodup:=(List.nodup_append.1 (hM.nodup j)).1
 have hpid:M'.hp id=some (some (.drow T (Zed ty.kinds ty.agg els idx off (.inl T' l)))):=by show ZW _ _ _=_;rw[Zfz,if_pos rfl]
 have hpj:M'.hp j=some none:=by show ZW _ _ _=_;rw[Zfz,if_neg hne,if_pos rfl]
 have hmv:=hM.move (M':=M') (fun i=>i=id∨i=j) (fun i hi=>?_) (fun _ _ h=>h) (fun _ _=>rfl) (fun _ _ _ _=>rfl) (KeptBut.refl _ _) (fun _ _ _=>rfl)
  (fun i hi g hg=>?_) (fun i hi g hg=>?_) (fun i hi=>?_) (fun i i' hi hi' hne' g hg=>?_) (fun i hi g hg=>?_) (fun i hi=>?_) (fun hle i hi b hb'=>?_)
 ·exact⟨M',rfl,rfl,hmv.1,hmv.2,rfl⟩
 ·have e1:i≠id:=fun e=>hi (.inl e)
  have e2:i≠j:=fun e=>hi (.inr e)
  refine⟨rfl,?_,rfl,?_⟩
  ·show(if i=id then _ else if i=j then[] else M.top i)=_
   rw[if_neg e1,if_neg e2]
  ·show ZW _ _ _=_
   rw[Zfz,if_neg e1,if_neg e2]
 ·rcases hi with rfl | rfl
  ·rw[htid] at hg
   rcases hmem g hg with h | h
   ·exact .inl ⟨i, .inl rfl,h⟩
   ·exact .inl ⟨j, .inr rfl,h⟩
  ·rw[htj] at hg;cases hg
 ·exact .inl ⟨i,hi,List.mem_append_right _ hg⟩
 ·rcases hi with rfl | rfl
  ·rw[htid]
   show(_++M.nest i).Nodup
   rw[h13,List.append_nil]
   refine List.nodup_append.2 ⟨n1,nodup_flatF.2 ⟨fun a b ha hb'=>?_,fun a b a' b' ha hb1 ha' hb2 hne' g hg hg'=>?_⟩,fun a ha b hb' e=>?_⟩
   ·by_cases e:a=idx∧b=off
    ·obtain⟨rfl,rfl⟩:=e;rw[hG0];exact hnj
    ·rw[show G a b=F a b from if_neg e];exact c1 a b ha hb'
   ·by_cases e:a=idx∧b=off <;> by_cases e':a'=idx∧b'=off
    ·obtain⟨rfl,rfl⟩:=e;obtain⟨rfl,rfl⟩:=e'
     rcases hne' with h | h <;> exact h rfl
    ·obtain⟨rfl,rfl⟩:=e
     rw[hG0] at hg
     rw[show G a' b'=F a' b' from if_neg e'] at hg'
     exact hap g hg (by rw[h12];exact List.mem_append_right _ (mem_flatF.2 ⟨a',ha',b',hb2,hg'⟩))
    ·obtain⟨rfl,rfl⟩:=e'
     rw[hG0] at hg'
     rw[show G a b=F a b from if_neg e] at hg
     exact hap g hg' (by rw[h12];exact List.mem_append_right _ (mem_flatF.2 ⟨a,ha,b,hb1,hg⟩))
    ·rw[show G a b=F a b from if_neg e] at hg
     rw[show G a' b'=F a' b' from if_neg e'] at hg'
     exact c2 a b a' b' ha hb1 ha' hb2 hne' g hg hg'
   ·subst e
    rcases ZgS hG hb' with hg | ⟨hg,-,-⟩
    ·exact n3 a ha a hg rfl
    ·rw[hG0] at hg
     exact hap a hg (by rw[h12];exact List.mem_append_left _ ha)
  ·rw[htj]
   show([]++M.nest i).Nodup
   rw[k7];simp
 ·rcases hi with rfl | rfl
  ·rcases hi' with rfl | rfl
   ·exact absurd rfl hne'
   ·rw[htj];show _∉[]++M.nest i';rw[k7];simp
  ·rw[htj] at hg
   have hg:g∈[]++M.nest i:=hg
   rw[k7] at hg;simp at hg
 ·rcases hi with rfl | rfl
  ·rw[htid] at hg
   rcases List.mem_append.1 hg with hg | hg
   ·rcases hmem g hg with h | h
    ·exact(hM.mine i g (List.mem_append_left _ h)).2
    ·exact(hM.mine j g (List.mem_append_left _ h)).2
   ·exact(hM.mine i g (List.mem_append_right _ hg)).2
  ·rw[htj] at hg
   exact(hM.mine i g (List.mem_append_right _ hg)).2
 ·rcases hi with rfl | rfl
  ·rw[hpid];exact⟨fun h=>(by cases h),fun h=>(by cases h)⟩
  ·rw[hpj];exact⟨fun h=>(by cases h),fun _=>⟨htj,k7⟩⟩
 ·rcases hi with rfl | rfl
  ·rw[hpid] at hb'
   cases hb'
   refine⟨ty,v,ZD els.length ty.kinds.length G,ht,by rw[hlen];exact h2,⟨ty,xs,ht,by rw[hlen];exact h3,fun i hi=>s1 i (by rwa [hlen] at hi), .inl ⟨rfl,G,by rw[hlen],fun a b ha hb'=>?_⟩⟩,htid,h13⟩
   rw[hlen] at ha
   unfold Zed
   rw[s2]
   by_cases e:a=idx∧b=off
   ·obtain⟨rfl,rfl⟩:=e
    rw[if_pos ⟨rfl,Nat.le_refl _,by simp⟩,Nat.sub_self,hG0]
    exact hro
   ·rw[if_neg (fun h=>e ⟨h.1,by have:=h.2.2;simp at this;omega⟩),show G a b=F a b from if_neg e]
    exact h11 a b ha hb' (by by_cases e1:a=idx;exact .inr fun e2=>e ⟨e1,e2⟩;exact .inl e1)
  ·rw[hpj] at hb';cases hb'
theorem RowIs.sl0 {w:World} {ok:Nat→Prop} {ρ:Nat→Option RB} {T:TypeId} {sz N:Nat} {v:Value} {xs:List Value} {id:Nat} (h:RowIs w T sz N v xs) (hρ:ρ id=some (.row T sz N v)):Rs tab w ok ρ (.sl id T 0 none) v:=by
 rcases h.2 with⟨a,rfl,rfl⟩ | ⟨g,cap,cur,rfl,hc,hg,hN,r⟩
 ·exact .sl id T 0 none sz 0 a a 0 0 hρ (Nat.le_refl _) rfl (by simp) (fun h=>absurd h (by simp)) (fun _=>rfl)
 ·exact .sl id T 0 none sz N _ _ cap N hρ hN rfl (by simp) (fun _=>by simp[ZcP]) (fun _=>rfl)
theorem open_mem (hT:ZB P tab) {E:Entry} {M:Mem} (hM:MemOk tab E M) {id nid idx off:Nat} {T e:TypeId} {els:List V} {ty:Ty} (ht:tab T=some ty)
  (hb:M.hp id=some (some (.drow T els))) (hn:M.hp nid=none) (hi:idx<els.length) (hk:ty.kinds[off]? = some (.sl e)):
  ∃M' v xs,M'.w=M.w∧MemOk tab E M'∧MemLe E M M'∧M'.hp=ZW M.hp [(nid,some (.drow e ((els.getD idx .dead).cell off).L)),(id,some (.hrow T els idx off nid))]∧
   M.ρ id=some (.row T ty.kinds.length els.length v)∧RowIs M.w T ty.kinds.length els.length v xs∧M'.Rs tab E (.sl nid e 0 none) (xs.getD (idx*ty.kinds.length+off) undef):=by
 obtain⟨ty1,v,xs,F,h1,h2,h3,h4,h5,h12,h13,-⟩:=hM.drow hb
 obtain rfl:ty=ty1:=Option.some.inj (ht.symm.trans h1)
 have hoff:off<ty.kinds.length:=(List.getElem?_eq_some_iff.1 hk).1
 have hkd:ty.kinds.getD off .other = .sl e:=by simp[List.getD,hk]
 have hro:=h5 idx off hi hoff
 have hkind:=(h4 idx hi).2.2.2 off hoff
 rw[hkd] at hkind
 obtain⟨l,ty2,ys,G2,hx,k1,k3,k4,k5,hF⟩:=hro.sl_inv hkind
 have hne:nid≠id:=fun e=>by rw[e,hb] at hn;cases hn
 obtain⟨hfρ,hft,hfn⟩:=hM.fresh nid hn
 let G:Nat→Nat→List Nat:=fun i k=>if i=idx∧k=off then[] else F i k
 have hG:∀i k,(i≠idx∨k≠off)→G i k=F i k:=fun i k h=>if_neg fun h'=>by rcases h with h | h;exact h h'.1;exact h h'.2
 have hG0:G idx off=[]:=if_pos ⟨rfl,rfl⟩
 let M':Mem:={ w:=M.w,ρ:=fun i=>if i=nid then some (.row e ty2.kinds.length l.length (xs.getD (idx*ty.kinds.length+off) undef)) else M.ρ i
               top:=fun i=>if i=id then Zr v++ZD els.length ty.kinds.length G else if i=nid then F idx off else M.top i,nest:=M.nest
               hp:=ZW M.hp [(nid,some (.drow e ((els.getD idx .dead).cell off).L)),(id,some (.hrow T els idx off nid))] }
 have htid:M'.top id=Zr v++ZD els.length ty.kinds.length G:=if_pos rfl
 have htj:M'.top nid=F idx off:=by show(if nid=id then _ else if nid=nid then F idx off else M.top nid)=_;rw[if_neg hne,if_pos rfl]
 have hρn:M'.ρ nid=some (.row e ty2.kinds.length l.length (xs.getD (idx*ty.kinds.length+off) undef)):=if_pos rfl
 have hρi:∀i rb,M.ρ i=some rb→M'.ρ i=some rb:=fun i rb h=>by
  show(if i=nid then _ else M.ρ i)=_
  rw[if_neg (fun e=>by rw[e,hfρ] at h;cases h)];exact h
 have hpid:M'.hp id=some (some (.hrow T els idx off nid)):=by show ZW _ _ _=_;rw[Zij,if_pos rfl]
 have hpj:M'.hp nid=some (some (.drow e ((els.getD idx .dead).cell off).L)):=by show ZW _ _ _=_;rw[Zij,if_neg hne,if_pos rfl]
 have hFin:∀g∈F idx off,g∈ZD els.length ty.kinds.length F:=fun g hg=>mem_flatF.2 ⟨idx,hi,off,hoff,hg⟩
 have hGin:∀g∈ZD els.length ty.kinds.length G,g∈ZD els.length ty.kinds.length F:=fun g hg=>by
  rcases ZgS hG hg with hg | ⟨hg,-,-⟩
  ·exact hg
  ·rw[hG0] at hg;cases hg
 have hsub:∀g,g∈Zr v++ZD els.length ty.kinds.length G→g∈M.top id:=fun g hg=>by
  rw[h12]
  rcases List.mem_append.1 hg with hg | hg
  ·exact List.mem_append_left _ hg
  ·exact List.mem_append_right _ (hGin g hg)
 have hsubF:∀g∈F idx off,g∈M.top id:=fun g hg=>by rw[h12];exact List.mem_append_right _ (hFin g hg)
 have hnd:=hM.nodup id
 rw[h12,h13,List.append_nil] at hnd
 obtain⟨n1,n2,n3⟩:=List.nodup_append.1 hnd
 obtain⟨c1,c2⟩:=nodup_flatF.1 n2
 have hsep:∀g,g∈Zr v++ZD els.length ty.kinds.length G→g∈F idx off→False:=fun g hg hgF=>by
  rcases List.mem_append.1 hg with hg | hg
  ·exact n3 g hg g (hFin g hgF) rfl
  ·obtain⟨a,ha,b,hb',hg⟩:=mem_flatF.1 hg
   by_cases e:a=idx∧b=off
   ·obtain⟨rfl,rfl⟩:=e;rw[hG0] at hg;cases hg
   ·rw[show G a b=F a b from if_neg e] at hg
    exact c2 a b idx off ha hb' hi hoff (by by_cases e1:a=idx;exact .inr fun e2=>e ⟨e1,e2⟩;exact .inl e1) g hg hgF
 have hmv:=hM.move (M':=M') (fun i=>i=id∨i=nid) (fun i hi=>?_) hρi (fun _ _=>rfl) (fun _ _ _ _=>rfl) (KeptBut.refl _ _) (fun _ _ _=>rfl)
  (fun i hi g hg=>?_) (fun i hi g hg=>?_) (fun i hi=>?_) (fun i i' hi hi' hne' g hg=>?_) (fun i hi g hg=>?_) (fun i hi=>?_) (fun hle i hi b hb'=>?_)
 ·exact⟨M',v,xs,rfl,hmv.1,hmv.2,rfl,h2,h3,RowIs.sl0 (w:=M.w) k3 hρn⟩
 ·have e1:i≠id:=fun e=>hi (.inl e)
  have e2:i≠nid:=fun e=>hi (.inr e)
  refine⟨?_,?_,rfl,?_⟩
  ·show(if i=nid then _ else M.ρ i)=_
   rw[if_neg e2]
  ·show(if i=id then _ else if i=nid then _ else M.top i)=_
   rw[if_neg e1,if_neg e2]
  ·show ZW _ _ _=_
   rw[Zij,if_neg e1,if_neg e2]
 ·rcases hi with rfl | rfl
  ·rw[htid] at hg;exact .inl ⟨i, .inl rfl,hsub g hg⟩
  ·rw[htj] at hg;exact .inl ⟨id, .inl rfl,hsubF g hg⟩
 ·exact .inl ⟨i,hi,List.mem_append_right _ hg⟩
 ·rcases hi with rfl | rfl
  ·rw[htid]
   show(_++M.nest i).Nodup
   rw[h13,List.append_nil]
   refine List.nodup_append.2 ⟨n1,nodup_flatF.2 ⟨fun a b ha hb'=>?_,fun a b a' b' ha hb1 ha' hb2 hne' g hg hg'=>?_⟩,fun a ha b hb'=>n3 a ha b (hGin b hb')⟩
   ·by_cases e:a=idx∧b=off
    ·obtain⟨rfl,rfl⟩:=e;rw[hG0];exact .nil
    ·rw[show G a b=F a b from if_neg e];exact c1 a b ha hb'
   ·have key:∀a b g,g∈G a b→g∈F a b:=fun a b g hg=>by
     by_cases e:a=idx∧b=off
     ·rw[show G a b=[] from if_pos e] at hg;cases hg
     ·rwa [show G a b=F a b from if_neg e] at hg
    exact c2 a b a' b' ha hb1 ha' hb2 hne' g (key _ _ _ hg) (key _ _ _ hg')
  ·rw[htj]
   show(_++M.nest i).Nodup
   rw[hfn,List.append_nil]
   exact c1 idx off hi hoff
 ·have hnn:∀i,i=id∨i=nid→M'.nest i=[]:=fun i hi=>by rcases hi with rfl | rfl;exact h13;exact hfn
  rw[hnn i hi,List.append_nil] at hg
  rw[hnn i' hi',List.append_nil]
  rcases hi with rfl | rfl <;> rcases hi' with rfl | rfl
  ·exact absurd rfl hne'
  ·rw[htid] at hg;rw[htj];exact fun h=>hsep g hg h
  ·rw[htj] at hg;rw[htid];exact fun h=>hsep g h hg
  ·exact absurd rfl hne'
 ·rcases hi with rfl | rfl
  ·rw[htid] at hg
   rcases List.mem_append.1 hg with hg | hg
   ·exact(hM.mine i g (List.mem_append_left _ (hsub g hg))).2
   ·exact(hM.mine i g (List.mem_append_right _ hg)).2
  ·rw[htj] at hg
   rcases List.mem_append.1 hg with hg | hg
   ·exact(hM.mine id g (List.mem_append_left _ (hsubF g hg))).2
   ·exact(hM.mine i g (List.mem_append_right _ hg)).2
 ·rcases hi with rfl | rfl
  ·rw[hpid];exact⟨fun h=>(by cases h),fun h=>(by cases h)⟩
  ·rw[hpj];exact⟨fun h=>(by cases h),fun h=>(by cases h)⟩
 ·rcases hi with rfl | rfl
  ·rw[hpid] at hb'
   cases hb'
   refine⟨ty,v,xs,G,e,ty2,l.length,ht,hρi _ _ h2,h3,h4,‹_›,hoff,hkd,k1,hρn,hG0,fun a b ha hb' hne'=>?_,htid,h13⟩
   rw[hG a b hne'];exact h5 a b ha hb'
  ·rw[hpj] at hb'
   cases hb'
   rw[hx]
   refine⟨ty2,xs.getD (idx*ty.kinds.length+off) undef,ZD l.length ty2.kinds.length G2,k1,hρn,⟨ty2,ys,k1,k3,k4, .inl ⟨rfl,G2,rfl,k5⟩⟩,?_,hfn⟩
   rw[htj];exact hF
end
end Go.Eng
namespace Go.Eng
section
variable {P:Program} {tab:Tab}
theorem rm_on {α:Type} {u:List (Nat×Option Blk)} {m:RM α} {h:ZaG} {r:α×List Nat} (e:RM.on u m h=some r):m (ZW h u)=some r:=e
theorem Zjj (hT:ZB P tab) {E:Entry} {M:Mem} (hM:MemOk tab E M) {id:Nat} {u:List (Nat×Option Blk)} {log:List Nat} (h:Zj8 tab id M.hp=some (u,log)):
  ∃M',M'.w=M.w∧M'.ρ=M.ρ∧MemOk tab E M'∧MemLe E M M'∧M'.hp=ZW M.hp u∧∀i,M.hp i=none→M'.hp i=none:=by
 obtain⟨b,l1,b1,l1',h1,h2,h3⟩:=Zj h
 obtain⟨h1,-⟩:=ZaH h1
 have stay:RM.ret ([]:List (Nat×Option Blk)) M.hp=some (b1,l1')→∃M',M'.w=M.w∧M'.ρ=M.ρ∧MemOk tab E M'∧MemLe E M M'∧M'.hp=ZW M.hp u∧∀i,M.hp i=none→M'.hp i=none:=fun h=>by
  cases Zm h
  cases h3
  exact⟨M,rfl,rfl,hM, .refl E M,rfl,fun _ h=>h⟩
 cases b with
 | box T cs=>exact stay h2
 | row T own els=>exact stay h2
 | drow T els=>exact stay h2
 | grow _ _=>exact stay h2
 | hrow T els idx off j=>
  obtain⟨ty,l2,b2,l2',h4,h5,h6⟩:=Zj h2
  obtain⟨h4,-⟩:=Zu h4
  obtain⟨c,l3,b3,l3',h7,h8,h9⟩:=Zj h5
  obtain⟨h7,-⟩:=ZaH h7
  cases c with
  | box T cs=>exact(Zo h8).elim
  | row T own els=>exact(Zo h8).elim
  | hrow _ _ _ _ _=>exact(Zo h8).elim
  | grow _ _=>exact(Zo h8).elim
  | drow T' l=>
   obtain⟨h10,h11⟩:=Zw h8
   cases Zm h11
   cases h9;cases h6;cases h3
   obtain⟨M',r1,r2,r3,r4,r5⟩:=Zmy hT hM h4 h1 h7 (by simpa using h10)
   refine⟨M',r1,r2,r3,r4,r5,fun i hi=>?_⟩
   rw[r5,Zfz,if_neg (fun e=>by rw[e,h1] at hi;cases hi),if_neg (fun e=>by rw[e,h7] at hi;cases hi)]
   exact hi
theorem StepOk.behind {E:Entry} {M M1:Mem} (h1:MemLe E M M1) {u:List (Nat×Option Blk)} (hu:M1.hp=ZW M.hp u) {v:V} {w:List (Nat×Option Blk)} {val:Value} {M':Mem} (h:StepOk tab E M1 ⟨v,w⟩ val M'):StepOk tab E M ⟨v,u++w⟩ val M':=
 ⟨h.mem,h1.trans h.le,by rw[h.hp,Zji,hu],h.val⟩
theorem Zon {ks:List Ck} {off n:Nat} (h:((ks.drop off).take n).all Ck.flat=true) {j:Nat} (hj:j<n) (hk:off+j<ks.length):(ks.getD (off+j) .other).flat=true:=by
 rw[List.all_eq_true] at h
 refine h _ (List.mem_iff_getElem?.2 ⟨j,?_⟩)
 rw[List.getElem?_take,if_pos hj,List.getElem?_drop,List.getD,List.getElem?_eq_getElem hk];rfl
theorem Zlg (hT:ZB P tab) {E:Entry} {M:Mem} (hM:MemOk tab E M) {t:TypeId} {ty:Ty} (ht:tab t=some ty) {id idx off:Nat} {T:TypeId} {els:List V} {tyT:Ty} (htT:tab T=some tyT) {pv:Value}
  (hb:M.hp id=some (some (.drow T els))) (hp:M.Rs tab E (.rp id idx off) pv) (hf:((tyT.kinds.drop off).take ty.kinds.length).all Ck.flat=true) {x:V} (hx:ZeP ty (Zau tyT.kinds (els.getD idx .dead) 0) off=some x):
  ∃v,(Instr.loadAt t pv).run P M.w = .ok v M.w∧M.Rs tab E x v:=by
 obtain⟨ty2,v,xs,F,k1,k2,k3,k4,k5,k6,k7,-⟩:=hM.drow hb
 obtain rfl:tyT=ty2:=Option.some.inj (htT.symm.trans k1)
 cases hp with
 | tree hp=>cases hp
 | rp _ _ _ T' sz N g cap hg hi=>
  have e:=k2.symm.trans hg
  simp only[Option.some.injEq,RB.row.injEq] at e
  obtain⟨rfl,rfl,rfl,rfl⟩:=e
  obtain⟨x1,x2,rfl⟩:=Zhp hx
  rw[ZaT] at x1
  have hxs:xs.length=els.length*tyT.kinds.length:=k3.1
  have hle:idx*tyT.kinds.length+tyT.kinds.length≤els.length*tyT.kinds.length:=by
   have:(idx+1)*tyT.kinds.length≤els.length*tyT.kinds.length:=Nat.mul_le_mul_right _ hi
   rwa [Nat.add_mul,Nat.one_mul] at this
  have hvl:((xs.drop (idx*tyT.kinds.length+off)).take ty.kinds.length).length=ty.kinds.length:=by simp;omega
  have hcl:(((Zau tyT.kinds (els.getD idx .dead) 0).drop off).take ty.kinds.length).length=ty.kinds.length:=by simp[ZaT];omega
  have hvj:∀j,j<ty.kinds.length→((xs.drop (idx*tyT.kinds.length+off)).take ty.kinds.length).getD j undef=xs.getD (idx*tyT.kinds.length+(off+j)) undef:=by
   intro j hj
   simp[List.getD,hj,List.getElem?_drop,Nat.add_assoc]
  have hA:M.w.rangeAt g (idx*tyT.kinds.length+off) ((xs.drop (idx*tyT.kinds.length+off)).take ty.kinds.length):=by
   intro j u hu
   have hj:j<ty.kinds.length:=by have:=(List.getElem?_eq_some_iff.1 hu).1;rw[hvl] at this;exact this
   obtain⟨g',cap',e,_,_,hc⟩:=k3.cell (idx*tyT.kinds.length+(off+j)) (by omega)
   cases e
   rw[Nat.add_assoc,hc]
   have:=hvj j hj
   rw[List.getD,hu] at this
   simpa using this.symm
  have hB:∀j,j<(((Zau tyT.kinds (els.getD idx .dead) 0).drop off).take ty.kinds.length).length→M.Rs tab E ((((Zau tyT.kinds (els.getD idx .dead) 0).drop off).take ty.kinds.length).getD j .dead) (((xs.drop (idx*tyT.kinds.length+off)).take ty.kinds.length).getD j undef):=by
   intro j hj
   rw[hcl] at hj
   have:(((Zau tyT.kinds (els.getD idx .dead) 0).drop off).take ty.kinds.length).getD j .dead=(els.getD idx .dead).cell (off+j):=by
    rw[←ZjC (k4 idx hi) (off+j)]
    simp[List.getD,hj,List.getElem?_drop]
   rw[this,hvj j hj]
   exact .tree (((k5 idx (off+j) hi (by omega)).flat_inv ((k4 idx hi).2.2.2 _ (by omega)) (Zon hf hj (by omega))).2 _)
  obtain⟨w1,hv,hr⟩:=ZeT (P:=P) (hT t ty ht) (w:=M.w) (ok:=okS E M) (ρ:=M.ρ) (g:=g) (o:=idx*tyT.kinds.length+off) (off:=0) (x:=Eng.mk ty.agg (((Zau tyT.kinds (els.getD idx .dead) 0).drop off).take ty.kinds.length)) _ (by rw[hvl,hcl]) hA hB
   (by unfold ZeP;rw[if_pos ⟨by rw[hcl];omega,x2⟩,List.drop_zero,List.take_take,Nat.min_self])
  refine⟨w1,?_,hr⟩
  simpa [Instr.loadAt,Instr.sureAddr] using hv
theorem ZnS (hT:ZB P tab) {E:Entry} {M:Mem} (hM:MemOk tab E M) {nid:Nat} {t:TypeId} {p:V} {pv:Value} (hp:M.Rs tab E p pv) {Ef:Eff} {log:List Nat}
  (he:ZiO tab nid t p M.hp=some (Ef,log)) (hn:nid∈Ef.upd.map (·.1)→M.hp nid=none):∃M' val,(Instr.loadAt t pv).run P M.w = .ok val M'.w∧StepOk tab E M Ef val M':=by
 have Zbh:RM.bind (Zgx tab t p) (fun v=>RM.ret (⟨v,[]⟩:Eff)) M.hp=some (Ef,log)→∃M' val,(Instr.loadAt t pv).run P M.w = .ok val M'.w∧StepOk tab E M Ef val M':=fun h=>by
  obtain⟨x,l,h1,rfl⟩:=ZdL h
  obtain⟨v,h2,h3⟩:=Zhq hT hM hp h1
  exact⟨M,v,h2, .same hM h3⟩
 unfold ZiO at he
 split at he
 ·rename_i id idx off
  obtain⟨u,l1,b1,l1',h1,h2,h3⟩:=Zj he
  cases h3
  obtain⟨M1,w1,ρ1,m1,le1,hp1,hn1⟩:=Zjj hT hM h1
  have h2:=rm_on h2
  rw[←hp1] at h2
  have hpM:M1.Rs tab E (.rp id idx off) pv:=le1.rs hp
  obtain⟨b,l2,b2,l2',h4,h5,h6⟩:=Zj h2
  cases h6
  obtain⟨h4,-⟩:=ZaH h4
  have Zbh:RM.bind (Zgx tab t (.rp id idx off)) (fun v=>RM.ret (⟨v,u⟩:Eff)) M1.hp=some (Ef,l2')→∃M' val,(Instr.loadAt t pv).run P M.w = .ok val M'.w∧StepOk tab E M Ef val M':=fun h=>by
   obtain⟨x,l,y,l',h1,h7,h8⟩:=Zj h
   cases Zm h7
   cases h8
   obtain⟨v,h2,h3⟩:=Zhq hT m1 hpM h1
   refine⟨M1,v,by rw[w1] at h2 ⊢;exact h2,?_⟩
   have:=StepOk.behind le1 hp1 (StepOk.same m1 h3)
   rwa [List.append_nil] at this
  cases b with
  | box T cs=>exact Zbh h5
  | row T own els=>exact Zbh h5
  | hrow _ _ _ _ _=>exact Zbh h5
  | grow _ _=>exact Zbh h5
  | drow T els=>
   obtain⟨tyT,l3,b3,l3',h7,h8,h9⟩:=Zj h5
   cases h9
   obtain⟨h7,-⟩:=Zu h7
   obtain⟨ty,l4,b4,l4',h10,h11,h12⟩:=Zj h8
   cases h12
   obtain⟨h10,-⟩:=Zu h10
   split at h11
   ·rename_i e hke
    obtain⟨h13,h14⟩:=Zw h11
    cases Zm h14
    simp only[Bool.and_eq_true,Bool.not_eq_true',decide_eq_true_eq] at h13
    obtain⟨a1,a2,a3⟩:=h13
    cases hpM with
    | tree hp=>cases hp
    | rp _ _ _ T' sz N g cap hg hi=>
     obtain⟨ty2,v2,xs2,F2,k1,k2,k3,k4,k5,k6,k7,-⟩:=m1.drow h4
     obtain rfl:tyT=ty2:=Option.some.inj (h7.symm.trans k1)
     have e:=k2.symm.trans hg
     simp only[Option.some.injEq,RB.row.injEq] at e
     obtain⟨rfl,rfl,rfl,rfl⟩:=e
     have hnid:M1.hp nid=none:=hn1 _ (hn (by simp))
     obtain⟨M',v,xs,r1,r2,r3,r4,r5,r6,r7⟩:=open_mem hT m1 h7 h4 hnid hi a2
     have hoff:off<tyT.kinds.length:=(List.getElem?_eq_some_iff.1 a2).1
     have e:=r5.symm.trans hg
     simp only[Option.some.injEq,RB.row.injEq,true_and] at e
     subst e
     obtain⟨g',cap',e,_,_,hc⟩:=r6.cell (idx*tyT.kinds.length+off) (ZbK hi hoff)
     cases e
     have hld:=Zg8 (hT t ty h10) M1.w g (idx*tyT.kinds.length+off) [xs.getD (idx*tyT.kinds.length+off) undef] (by rw[hke];rfl) (fun j u hu=>by
      obtain rfl:j=0:=by have:=(List.getElem?_eq_some_iff.1 hu).1;simpa using this
      cases hu
      rw[Nat.add_zero];exact hc)
     have hmk:Zho ty.agg [xs.getD (idx*tyT.kinds.length+off) undef]=xs.getD (idx*tyT.kinds.length+off) undef:=by rw[a1];rfl
     rw[hmk] at hld
     refine⟨M',_,?_,StepOk.behind le1 hp1 ⟨r2,r3,r4,r7⟩⟩
     rw[r1,w1] at *
     simpa [Instr.loadAt,Instr.sureAddr] using hld
   ·obtain⟨h13,h14⟩:=Zw h11
    obtain⟨x,l5,y,l5',h15,h16,h17⟩:=Zj h14
    cases h17
    cases Zm h16
    obtain⟨h15,-⟩:=Zu h15
    obtain⟨v,r1,r2⟩:=Zlg hT m1 h10 h7 h4 hpM h13 h15
    refine⟨M1,v,by rw[w1] at r1 ⊢;exact r1,?_⟩
    have:=StepOk.behind le1 hp1 (StepOk.same m1 r2)
    rwa [List.append_nil] at this
 ·exact Zbh he
theorem Zkw (hT:ZB P tab) {E:Entry} {M:Mem} (hM:MemOk tab E M) {t:TypeId} {ty:Ty} (ht:tab t=some ty) {id idx off:Nat} {x:V} {pv v:Value} {T:TypeId} {els:List V} {tyT:Ty} (htT:tab T=some tyT)
  (hp:M.Rs tab E (.rp id idx off) pv) (hx:M.Rs tab E x v) (hl:x.cells.length=ty.kinds.length) (ha:x.cells.all V.one=true) (hb:M.hp id=some (some (.drow T els)))
  (hfit:off+x.cells.length≤tyT.kinds.length) (hf:((tyT.kinds.drop off).take x.cells.length).all Ck.flat=true) (hk:ZdP ((tyT.kinds.drop off).take x.cells.length) x.cells=true):
  ∃M',(Instr.storeAt t pv v).run P M.w = .ok () M'.w∧StepOk tab E M ⟨.dead,[(id,some (.drow T (els.set idx (mk tyT.agg (Z6 (ZV tyT.kinds (els.getD idx .dead)) off x.cells)))))]⟩ undef M':=by
 obtain⟨h1,h2,h3⟩:=Zc7 hx ha
 obtain⟨ty2,rv,xs,F,k1,k2,k3,k4,k5,k6,k7,-⟩:=hM.drow hb
 obtain rfl:tyT=ty2:=Option.some.inj (htT.symm.trans k1)
 cases hp with
 | tree hp=>cases hp
 | rp _ _ _ T' sz N g cap hg hi=>
  have e:=k2.symm.trans hg
  simp only[Option.some.injEq,RB.row.injEq] at e
  obtain⟨rfl,rfl,rfl,rfl⟩:=e
  rcases k3.2 with⟨b,e3,h0⟩ | ⟨g',cap',cur,e3,hc,hgr,hNc,hcm,hcs,htk⟩
  ·omega
  simp only[Value.slice.injEq,Option.some.injEq,Addr.mk.injEq,and_true,true_and] at e3
  obtain⟨rfl,rfl⟩:=e3
  obtain⟨hkl,hkk⟩:=ZeU hk
  have hle:idx*tyT.kinds.length+tyT.kinds.length≤els.length*tyT.kinds.length:=by
   have:(idx+1)*tyT.kinds.length≤els.length*tyT.kinds.length:=Nat.mul_le_mul_right _ hi
   rwa [Nat.add_mul,Nat.one_mul] at this
  have hcap:els.length*tyT.kinds.length≤cap*tyT.kinds.length:=Nat.mul_le_mul_right _ hNc
  have hrun:=Zic (P:=P) (hT t ty ht) (o:=idx*tyT.kinds.length+off) hgr (h1.trans hl) h3 (by rw[hcs,←hl];omega)
  have hkind:∀j,j<x.cells.length→kindOk (tyT.kinds.getD (off+j) .other) (x.cells.getD j .dead):=fun j hj=>by
   have:=hkk j (by simp;omega)
   simpa [List.getD,List.getElem?_take,hj,List.getElem?_drop] using this
  obtain⟨s1,s2⟩:=Zkv (hT T tyT htT) k4 hi hfit hkind
  have hclen:cur.toList.length=cap*tyT.kinds.length:=by rw[Array.length_toList,hcs]
  have hnew:(cur.toList.take (idx*tyT.kinds.length+off)++v.cells.toList++cur.toList.drop (idx*tyT.kinds.length+off+v.cells.toList.length)).take (els.length*tyT.kinds.length) =
    xs.take (idx*tyT.kinds.length+off)++v.cells.toList++xs.drop (idx*tyT.kinds.length+off+v.cells.toList.length):=by
   rw[←htk]
   exact ZgP _ _ _ _ (by omega) (by omega)
  have hval:=fun i j (hj:j<tyT.kinds.length)=>Zjc (sz:=tyT.kinds.length) (off:=off) (vals':=v.cells.toList) k3.1 hi (by omega) i j hj
  have hlen':(els.set idx (mk tyT.agg (Z6 (ZV tyT.kinds (els.getD idx .dead)) off x.cells))).length=els.length:=List.length_set
  have htg:Zr (.slice (some ⟨g,0,none⟩) els.length cap)=[g]:=by
   obtain⟨c,rfl⟩:∃c,cap=c+1:=⟨cap-1,by omega⟩
   rfl
  have hgt:g∈M.top id:=by rw[k6,htg];simp
  have hrow:RowIs (M.w.setRow g (cur.toList.take (idx*tyT.kinds.length+off)++v.cells.toList++cur.toList.drop (idx*tyT.kinds.length+off+v.cells.toList.length)).toArray) T tyT.kinds.length
    (els.set idx (mk tyT.agg (Z6 (ZV tyT.kinds (els.getD idx .dead)) off x.cells))).length (.slice (some ⟨g,0,none⟩) els.length cap)
    (xs.take (idx*tyT.kinds.length+off)++v.cells.toList++xs.drop (idx*tyT.kinds.length+off+v.cells.toList.length)):=by
   have hxl:=k3.1
   refine⟨by rw[hlen'];simp only[List.length_append,List.length_take,List.length_drop];omega, .inr ⟨g,cap,_,by rw[hlen'],hc,hgr.setRow (by have:=Array.length_toList (xs:=cur);simp only[List.size_toArray,List.length_append,List.length_take,List.length_drop];omega),by rw[hlen'];exact hNc,hcm,?_,by rw[hlen'];exact hnew⟩⟩
   simp only[List.size_toArray,List.length_append,List.length_take,List.length_drop];omega
  have hnd:=hM.nodup id
  rw[k6,htg,k7,List.append_nil] at hnd
  obtain⟨n1,n2,n3⟩:=List.nodup_append.1 hnd
  let w':=M.w.setRow g (cur.toList.take (idx*tyT.kinds.length+off)++v.cells.toList++cur.toList.drop (idx*tyT.kinds.length+off+v.cells.toList.length)).toArray
  have hoth:∀k,k≠g→w'.heap[k]? = M.w.heap[k]?:=fun k hk=>setRow_other _ _ _ _ hk
  let B:Blk:=.drow T (els.set idx (mk tyT.agg (Z6 (ZV tyT.kinds (els.getD idx .dead)) off x.cells)))
  let M':Mem:={ w:=w',ρ:=M.ρ,top:=M.top,nest:=M.nest,hp:=ZW M.hp [(id,some B)] }
  have hpi:∀i,M'.hp i=if i=id then some (some B) else M.hp i:=fun i=>rfl
  have hmv:=hM.move (M':=M') (fun i=>i=id) (fun i hi=>?_) (fun _ _ h=>h) (fun k hk=>?_) (fun i hi k hk=>?_) ⟨rfl,rfl,rfl,by simp[M',w'],fun g hg hn=>absurd (List.mem_range.2 hg) hn⟩ (fun k hk hF=>?_)
   (fun i hi k hk=>.inl ⟨i,hi,hk⟩) (fun i hi k hk=>.inl ⟨i,hi,List.mem_append_right _ hk⟩) (fun i hi=>hM.nodup i) (fun i i' hi hi' hne=>absurd (hi.trans hi'.symm) hne) (fun i hi k hk=>?_) (fun i hi=>?_) (fun hle i hi b hb'=>?_)
  ·exact⟨M',hrun,hmv.1,hmv.2,rfl, .tree (.dead _)⟩
  ·exact⟨rfl,rfl,rfl,by rw[hpi,if_neg hi]⟩
  ·exact hoth k fun e=>hk.2.2 id (e▸hgt)
  ·exact hoth k fun e=>hM.apart i id hi k hk (e▸List.mem_append_left _ hgt)
  ·refine hoth k fun e=>?_
   subst e
   rcases hM.mineT id k hgt with h | h
   ·exact hF h
   ·omega
  ·have:=(hM.mine i k hk).2
   simpa [M',w'] using this
  ·subst hi
   rw[hpi,if_pos rfl];exact⟨fun h=>(by cases h),fun h=>(by cases h)⟩
  ·subst hi
   rw[hpi,if_pos rfl] at hb'
   cases hb'
   refine⟨tyT,_,ZD els.length tyT.kinds.length F,htT,by rw[hlen'];exact k2,⟨tyT,_,htT,hrow,fun a ha'=>s1 a (by rwa [hlen'] at ha'), .inl ⟨rfl,F,by rw[hlen'],fun a b ha' hb'=>?_⟩⟩,k6,k7⟩
   rw[hlen'] at ha'
   rw[s2,hval a b hb',h1]
   by_cases e:a=idx∧off≤b∧b<off+x.cells.length
   ·rw[if_pos e,if_pos e]
    obtain⟨rfl,e1,e2⟩:=e
    have hk1:=hkind (b-off) (by omega)
    rw[show off+(b-off)=b from by omega] at hk1
    have hfl:=Zon hf (j:=b-off) (by omega) (by omega)
    rw[show off+(b-off)=b from by omega] at hfl
    rw[((k5 a b ha' hb').flat_inv ((k4 a ha').2.2.2 b hb') hfl).1]
    have hr:=h2 (b-off) (by omega)
    generalize x.cells.getD (b-off) .dead=y at hk1 hr ⊢
    generalize v.cells.toList.getD (b-off) undef=u at hr ⊢
    generalize tyT.kinds.getD b .other=kd at hk1 hfl
    cases kd <;> cases y <;> simp[kindOk,Ck.flat] at hk1 hfl
    ·rw[hr.int];exact .int _ _
    ·rw[hr.bool];exact .bool _
    ·obtain⟨s,rfl,hs⟩:=hr.str;exact .str _ _ hs
   ·rw[if_neg e,if_neg e]
    refine(k5 a b ha' hb').keep fun k hk=>hoth k fun e=>?_
    subst e
    exact n3 k (by simp) k (mem_flatF.2 ⟨a,ha',b,hb',hk⟩) rfl
theorem Zjk (hT:ZB P tab) {E:Entry} {M:Mem} (hM:MemOk tab E M) {t:TypeId} {p x:V} {pv v:Value} (hp:M.Rs tab E p pv) (hx:M.Rs tab E x v) {u:List (Nat×Option Blk)} {log:List Nat}
  (h1:Zg3 tab t p x M.hp=some (u,log)):∃M',(Instr.storeAt t pv v).run P M.w = .ok () M'.w∧StepOk tab E M ⟨.dead,u⟩ undef M':=by
 obtain⟨ty,l2,b2,l2',h4,h5,h6⟩:=Zj h1
 obtain⟨h4,-⟩:=Zu h4
 cases h6
 obtain⟨h7,h8⟩:=Zw h5
 simp only[Bool.and_eq_true,decide_eq_true_eq] at h7
 cases p with
 | bp id off=>
  obtain⟨blk,l3,b3,l3',h9,h10,h11⟩:=Zj h8
  obtain⟨h9,-⟩:=ZaH h9
  cases h11
  cases blk with
  | row T own els=>exact(Zo h10).elim
  | drow _ _=>exact(Zo h10).elim
  | hrow _ _ _ _ _=>exact(Zo h10).elim
  | grow _ _=>exact(Zo h10).elim
  | box T cs=>
   obtain⟨h12,h13⟩:=Zw h10
   cases Zm h13
   exact Zlc hT hM h4 hp hx h7.1 h7.2 h9 (by simpa using h12)
 | rp id idx off=>
  obtain⟨blk,l3,b3,l3',h9,h10,h11⟩:=Zj h8
  obtain⟨h9,-⟩:=ZaH h9
  cases h11
  cases blk with
  | box T cs=>exact(Zo h10).elim
  | drow _ _=>exact(Zo h10).elim
  | hrow _ _ _ _ _=>exact(Zo h10).elim
  | grow _ _=>exact(Zo h10).elim
  | row T own els=>
   obtain⟨tyT,l4,b4,l4',h12,h13,h14⟩:=Zj h10
   obtain⟨h12,-⟩:=Zu h12
   cases h14
   obtain⟨⟨cs,own2,K2⟩,l5,b5,l5',h15,h16,h17⟩:=Zj h13
   cases h17
   obtain⟨h18,h19⟩:=Zw h16
   cases Zm h19
   simp only[Bool.and_eq_true,decide_eq_true_eq] at h18
   exact Zld hT hM h4 h12 hp hx h7.1 h7.2 h9 h15 h18.1.1 h18.1.2 h18.2
 | _=>exact(Zo (h:=M.hp) h8).elim
theorem Zmz (hT:ZB P tab) {E:Entry} {M:Mem} (hM:MemOk tab E M) {t:TypeId} {p x:V} {pv v:Value} (hp:M.Rs tab E p pv) (hx:M.Rs tab E x v) {u:List (Nat×Option Blk)} {log:List Nat}
  (h:Zgc tab t p x M.hp=some (u,log)):∃M',(Instr.storeAt t pv v).run P M.w = .ok () M'.w∧StepOk tab E M ⟨.dead,u⟩ undef M':=by
 unfold Zgc at h
 split at h
 ·rename_i id idx off
  obtain⟨u1,l1,b1,l1',h1,h2,h3⟩:=Zj h
  cases h3
  obtain⟨M1,w1,ρ1,m1,le1,hp1,hn1⟩:=Zjj hT hM h1
  have h2:=rm_on h2
  rw[←hp1] at h2
  have hpM:M1.Rs tab E (.rp id idx off) pv:=le1.rs hp
  have hxM:M1.Rs tab E x v:=le1.rs hx
  obtain⟨b,l2,b2,l2',h4,h5,h6⟩:=Zj h2
  cases h6
  obtain⟨h4,-⟩:=ZaH h4
  have Zbh:RM.bind (Zg3 tab t (.rp id idx off) x) (fun w=>RM.ret (u1++w)) M1.hp=some (u,l2')→∃M',(Instr.storeAt t pv v).run P M.w = .ok () M'.w∧StepOk tab E M ⟨.dead,u⟩ undef M':=fun h=>by
   obtain⟨y,l,b,l',h1,h7,h8⟩:=Zj h
   cases Zm h7
   cases h8
   obtain⟨M',h2,h3⟩:=Zjk hT m1 hpM hxM h1
   exact⟨M',by rw[w1] at h2;exact h2,StepOk.behind le1 hp1 h3⟩
  cases b with
  | box T cs=>exact Zbh h5
  | row T own els=>exact Zbh h5
  | hrow _ _ _ _ _=>exact Zbh h5
  | grow _ _=>exact Zbh h5
  | drow T els=>
   obtain⟨tyT,l3,b3,l3',h7,h8,h9⟩:=Zj h5
   cases h9
   obtain⟨h7,-⟩:=Zu h7
   obtain⟨ty,l4,b4,l4',h10,h11,h12⟩:=Zj h8
   cases h12
   obtain⟨h10,-⟩:=Zu h10
   obtain⟨a1,h11⟩:=Zw h11
   obtain⟨a2,h11⟩:=Zw h11
   cases Zm h11
   simp only[Bool.and_eq_true,decide_eq_true_eq] at a1 a2
   obtain⟨M',h2,h3⟩:=Zkw hT m1 h10 h7 hpM hxM a1.1 a1.2 h4 a2.1 a2.2.1 a2.2.2
   exact⟨M',by rw[w1] at h2;exact h2,StepOk.behind le1 hp1 h3⟩
 ·exact Zjk hT hM hp hx h
end
end Go.Eng
namespace Go.Eng
section
variable {P:Program}
theorem ZlC {α β:Type} (f:α→β) (xs:Array α):(xs.toList.map f).toArray=xs.map f:=by
 apply Array.ext';simp
theorem ZmA {cfg:Cfg} (hT:ZB P cfg.tab) (hS:Zbk P cfg.tab cfg.sums) {E:Entry} {M:Mem} (hM:MemOk cfg.tab E M) {nid:Nat}
  {sl:Nat→V} {a:Act} (hs:Slots cfg.tab E M sl a) {o:Oper} {Ef:Eff} {log:List Nat} (h:ZbR cfg nid o (ev sl) M.hp=some (Ef,log)) (hfresh:∀id∈Ef.upd.map (·.1),nid≤id→M.hp id=none) (Q:Exit→Act→World→Prop):
  o.wp P a M.w (OpOk cfg.tab E M o a Ef) Q:=by
 have hn:nid∈Ef.upd.map (·.1)→M.hp nid=none:=fun h=>hfresh nid h (Nat.le_refl _)
 obtain⟨dst,op,type,pos,after,guard⟩:=o
 cases op with
 | move x=>cases Zm (h:=M.hp) h;exact Zbf hM rfl (ev_rs hs x).typed
 | assign x=>cases Zm (h:=M.hp) h;exact Zbf hM rfl (ev_rs hs x).typed
 | pick c x y=>
  have hc:=ZaA hs c
  simp only[ZbR] at h
  cases hb:sft (ev sl) c with
  | bool b=>
   rw[hb] at hc h
   cases Zm (h:=M.hp) h
   refine Zbf hM (v:=if b then a.eval x else a.eval y) ?_ ?_
   ·simp[execOp,hc.bool,asBool]
   ·cases b
    ·exact ZaA hs y
    ·exact ZaA hs x
  | _=>rw[hb] at h;exact(Zo (h:=M.hp) h).elim
 | alloc T=>
  have h:RM.bind (RM.lift (cfg.tab T)) (fun ty=>RM.ret (⟨.bp nid 0,[(nid,some (.box T (ty.kinds.map ZcJ)))]⟩:Eff)) M.hp=some (Ef,log):=h
  obtain⟨ty,l1,b1,l1',h1,h2,h3⟩:=Zj h
  obtain⟨h1,-⟩:=Zu h1
  cases Zm h2
  cases h3
  obtain⟨M',val,h4,h5⟩:=ZoK hT hM (hn (by simp)) h1
  exact ZdS ⟨M',val,Zbi h4,h5⟩
 | box T x=>
  have h:RM.bind (RM.lift (cfg.tab T)) (fun ty=>RM.test (decide ((sft (ev sl) x).cells.length=ty.kinds.length)&&(sft (ev sl) x).cells.all V.one) (RM.ret (⟨.bp nid 0,[(nid,some (.box T (Z2 cfg.tab ty.kinds (sft (ev sl) x).cells)))]⟩:Eff))) M.hp=some (Ef,log):=h
  obtain⟨ty,l1,b1,l1',h1,h2,h3⟩:=Zj h
  obtain⟨h1,-⟩:=Zu h1
  obtain⟨h4,h5⟩:=Zw h2
  cases Zm h5
  cases h3
  simp only[Bool.and_eq_true] at h4
  obtain⟨M',val,h6,h7⟩:=Zpo (P:=P) hM (hn (by simp)) (T:=T) ty.kinds (ZaA hs x) h4.2
  exact ZdS ⟨M',val,Zbi h6,h7⟩
 | build T ps=>
  obtain⟨ty,l1,b1,l1',h1,h2,h3⟩:=Zj h
  obtain⟨h1,-⟩:=Zu h1
  obtain⟨cs,l2,b2,l2',h4,h5,h6⟩:=Zj h2
  obtain⟨h4,-⟩:=Zu h4
  obtain⟨h7,h8⟩:=Zw h5
  cases Zm h8
  cases h6;cases h3
  simp only[Bool.and_eq_true,List.all_eq_true] at h7
  obtain⟨p1,p2⟩:=Zkt hs ps
  obtain⟨v,h9,h10⟩:=ZnM hT h1 h7.1 p1 p2 (fun p hp=>by simpa using h7.2 p hp) h4
  exact Zbf hM (Zbi h9) h10
 | buildSlice t n ps=>
  obtain⟨e,l1,b1,l1',h1,h2,h3⟩:=Zj h
  obtain⟨h1,-⟩:=Zu h1
  obtain⟨ty0,h0,h1⟩:=Option.bind_eq_some_iff.1 h1
  obtain⟨ty,l2,b2,l2',h4,h5,h6⟩:=Zj h2
  obtain⟨h4,-⟩:=Zu h4
  obtain⟨h7,h8⟩:=Zw h5
  obtain⟨⟨res,own,K⟩,l3,b3,l3',h9,h10,h11⟩:=Zj h8
  obtain⟨h12,h13⟩:=Zw h10
  cases Zm h13
  cases h11;cases h6;cases h3
  simp only[Bool.and_eq_true,decide_eq_true_eq] at h7
  obtain⟨p1,p2⟩:=Zkt hs ps
  obtain⟨M',val,h14,h15⟩:=ZjE hT hM (hn (by simp)) h0 h1 h4 h7.1 h7.2 p1 p2 h9 h12
  exact ZdS ⟨M',val,Zbi h14,h15⟩
 | load t p=>
  obtain⟨M',val,h2,h3⟩:=ZnS hT hM (ZaA hs p) h hn
  exact ZdS ⟨M',val,Zbi h2,h3⟩
 | store t p x=>
  have h:RM.bind (Zgc cfg.tab t (sft (ev sl) p) (sft (ev sl) x)) (fun u=>RM.ret (⟨.dead,u⟩:Eff)) M.hp=some (Ef,log):=h
  obtain⟨u,l1,b1,l1',h1,h2,h3⟩:=Zj h
  cases Zm h2
  cases h3
  obtain⟨M',h14,h15⟩:=Zmz hT hM (ZaA hs p) (ZaA hs x) h1
  exact op_unit ⟨M',run_u h14,h15⟩
 | nilCheck x=>
  have hx:=ZaA hs x
  have hptr:∀ad,a.eval x = .pointer (some ad)→(execOp a.eval ⟨dst, .nilCheck x,type,pos,after,guard⟩).run P M.w = .ok (.value (a.eval x)) M.w:=by
   intro ad h;simp only[execOp,h,Sem.run_pure]
  have hfun:∀f fs cs,a.eval x = .func (.func f) fs cs→(execOp a.eval ⟨dst, .nilCheck x,type,pos,after,guard⟩).run P M.w = .ok (.value (a.eval x)) M.w:=by
   intro f fs cs h;simp only[execOp,h,Sem.run_pure]
  simp only[ZbR] at h
  cases hpe:sft (ev sl) x with
  | bp id off=>
   rw[hpe] at hx h
   cases Zm (h:=M.hp) h
   refine Zbf hM (v:=a.eval x) ?_ hx
   generalize hv:a.eval x=v at hx hptr
   cases hx with
   | tree hx=>cases hx
   | bp _ _ g _=>rw[←hv];rw[←hv] at hptr;exact hptr _ hv
  | rp id i off=>
   rw[hpe] at hx h
   cases Zm (h:=M.hp) h
   refine Zbf hM (v:=a.eval x) ?_ hx
   generalize hv:a.eval x=v at hx hptr
   cases hx with
   | tree hx=>cases hx
   | rp _ _ _ _ _ _ _ _ _=>rw[←hv];rw[←hv] at hptr;exact hptr _ hv
  | ep cs off=>
   rw[hpe] at hx h
   cases Zm (h:=M.hp) h
   refine Zbf hM (v:=a.eval x) ?_ hx
   have hx:=hx.ep
   generalize hv:a.eval x=v at hx hptr
   cases hx with
   | ep _ _ _ _ _ _ _ _=>rw[←hv];rw[←hv] at hptr;exact hptr _ hv
  | fn f caps=>
   rw[hpe] at hx h
   cases Zm (h:=M.hp) h
   obtain⟨vals,hv,-⟩:=hx.fn_inv
   exact Zbf hM (hfun _ _ _ hv) hx
  | _=>rw[hpe] at h;exact(Zo (h:=M.hp) h).elim
 | binOp bop t x y e=>
  simp only[ZbR] at h
  cases hnc:ZjZ y with
  | true=>
   rw[hnc] at h
   obtain⟨e0,l1,b1,l1',h0,h2,h3⟩:=Zj h
   obtain⟨h0,-⟩:=Zu h0
   obtain⟨r,l,h1,rfl⟩:=ZdL h2
   cases h3
   obtain⟨h1,-⟩:=Zu h1
   have hy:y = .const (.slice none 0 0):=by
    unfold ZjZ at hnc
    split at hnc
    ·rfl
    ·cases hnc
   subst hy
   obtain⟨v,h2,h3⟩:=Zpz (ox:=x) hT h0 (ev_rs hs x) h1
   exact Zbf hM (Zbi h2) h3
  | false=>
   rw[hnc] at h
   obtain⟨h0,h⟩:=Zw h
   obtain⟨r,l,h1,rfl⟩:=ZdL h
   obtain⟨h1,-⟩:=Zu h1
   obtain⟨v,h2,h3⟩:=Zpm (ox:=x) (oy:=y) hT (ZaA hs x) (ZaA hs y) (Zpy h0 h1)
   exact Zbf hM (Zbi h2) h3
 | unOp uop t x=>
  obtain⟨r,l,h1,rfl⟩:=ZdL h
  obtain⟨h1,-⟩:=Zu h1
  obtain⟨v,h2,h3⟩:=un_sound (P:=P) (ZaA hs x) h1
  exact Zbf hM (Zbi h2) h3
 | convert s d x=>
  simp only[ZbR] at h
  have hx:=ZaA hs x
  split at h
  ·rename_i l hl
   rw[hl] at hx
   split at h
   ·obtain⟨M',val,h1,h2⟩:=Zku hT hM (nid:=nid) (fun _=>hn (Zl1 h)) hx h
    exact ZdS ⟨M',val,Zbi h1,h2⟩
   ·obtain⟨M',val,h1,h2⟩:=Zlf hT hM hx h
    exact ZdS ⟨M',val,Zbi h1,h2⟩
  ·rename_i id T hl
   rw[hl] at hx
   split at h
   ·obtain⟨M',val,h1,h2⟩:=Zmx hT hM hx h
    exact ZdS ⟨M',val,Zbi h1,h2⟩
   ·obtain⟨r,l,h1,rfl⟩:=ZdL h
    obtain⟨v,h2,h3⟩:=Zkk hT hM hx h1
    exact Zbf hM (Zbi h2) h3
  ·obtain⟨r,l,h1,rfl⟩:=ZdL h
   obtain⟨v,h2,h3⟩:=Zkk hT hM hx h1
   exact Zbf hM (Zbi h2) h3
 | makeFunc fn first captured=>
  cases fn with
  | func f=>
   have h:RM.test first.toList.isEmpty (RM.ret (⟨.fn f (captured.toList.map (sft (ev sl))),[]⟩:Eff)) M.hp=some (Ef,log):=h
   obtain⟨h1,h2⟩:=Zw h
   cases Zm h2
   have hf:first = #[]:=by
    obtain⟨l⟩:=first
    cases l with
    | nil=>rfl
    | cons _ _=>simp at h1
   subst hf
   obtain⟨r1,r2⟩:=ZgC hs captured.toList
   refine Zbf hM (v:=.func (.func f) #[] (captured.toList.map a.eval).toArray) ?_ (.fn _ _ _ r1 r2)
   simp[execOp,Instr.makeFunc,ZlC]
  | _=>exact(Zo (h:=M.hp) h).elim
 | makeSlice t n c=>
  obtain⟨M',val,h1,h2⟩:=ZoO hT hM (hn (make_key h)) (ZaA hs n) (ZaA hs c) h
  exact ZdS ⟨M',val,Zbi h1,h2⟩
 | slice t x lo hi mx=>
  obtain⟨r,l,h1,rfl⟩:=ZdL h
  have hopt:∀y:Option Operand,OptRs cfg.tab E M (y.map (sft (ev sl))) (y.map a.eval):=by
   intro y
   cases y with
   | none=>exact .inl ⟨rfl,rfl⟩
   | some y=>exact .inr ⟨_,_,rfl,rfl,ZaA hs y⟩
  obtain⟨v,h2,h3⟩:=ZnJ hT hM (ZaA hs x) (hopt lo) (hopt hi) (hopt mx) h1
  exact Zbf hM (Zbi h2) h3
 | fieldAddr t x f=>
  obtain⟨r,l,h1,rfl⟩:=ZdL h
  obtain⟨h1,-⟩:=Zu h1
  obtain⟨v,h2,h3⟩:=Zkc hT (ZaA hs x) h1
  exact Zbf hM (Zbi h2) h3
 | field t x f=>
  obtain⟨r,l,h1,rfl⟩:=ZdL h
  obtain⟨h1,-⟩:=Zu h1
  obtain⟨v,h2,h3⟩:=ZlW hT (ZaA hs x) h1
  exact Zbf hM (Zbi h2) h3
 | indexAddr t x i=>
  obtain⟨r,l,h1,rfl⟩:=ZdL h
  obtain⟨v,h2,h3⟩:=Zkf hT hM (ZaA hs x) (ZaA hs i) h1
  exact Zbf hM (Zbi h2) h3
 | index t x i=>
  have hx:=ZaA hs x
  have hi:=ZaA hs i
  simp only[ZbR] at h
  cases hxe:sft (ev sl) x with
  | str l=>
   cases hie:sft (ev sl) i with
   | int k n=>
    rw[hxe] at hx h
    rw[hie] at hi h
    obtain⟨h1,h2⟩:=Zw h
    cases Zm h2
    simp only[Bool.and_eq_true] at h1
    have hu:P.underlying t=some .string:=by
     have:=h1.1
     unfold isStr at this
     split at this
     ·rename_i ht
      exact(hT _ _ ht).strs rfl rfl
     ·cases this
    obtain⟨v,h3,h4⟩:=Zkd (P:=P) (k:=k) hx hu h1.2
    rw[←hi.int] at h3
    exact Zbf hM (Zbi h3) h4
   | _=>rw[hxe,hie] at h;exact(Zo (h:=M.hp) h).elim
  | _=>rw[hxe] at h;exact(Zo (h:=M.hp) h).elim
 | extract x i=>
  have hx:=ZaA hs x
  simp only[ZbR] at h
  cases hxe:sft (ev sl) x with
  | tup vs=>
   rw[hxe] at hx h
   obtain⟨r,l,h1,rfl⟩:=ZdL h
   obtain⟨h1,-⟩:=Zu h1
   obtain⟨v,h2,h3⟩:=ZlT (P:=P) hx h1 rfl
   exact Zbf hM (Zbi h2) h3
  | _=>rw[hxe] at h;exact(Zo (h:=M.hp) h).elim
 | call c=>
  simp only[ZbR] at h
  cases hcal:c.callee with
  | builtin b=>
   rw[hcal] at h
   obtain⟨M',val,h1,h2⟩:=Zl0 (ts:=c.argTypes) (ot:=type) (cs:=c.args.map fun | .const _=>true | _=>false) hT hM (ZgC hs c.args.toList) h hn
   refine ZdS ⟨M',val,?_,h2⟩
   rw[ZlC] at h1
   simp only[execOp,resolve,hcal,Sem.run_bind,Sem.run_pure,Result.andThen_ok,invoke]
   exact h1
  | value f=>
   rw[hcal] at h
   simp only[] at h
   cases hg:sft (ev sl) f with
   | fn g caps=>
    have hfv:=ZaA hs f
    rw[hg] at hfv h
    obtain⟨vals,hfe,hl,hj⟩:=hfv.fn_inv
    have hr:=(ZgC hs c.args.toList).append (ys:=caps) (us:=vals) ⟨hl,hj⟩
    obtain⟨he,hc⟩:=ZoS rfl hS hM hr h hfresh
    have hrun:(execOp a.eval ⟨dst, .call c,type,pos,after,guard⟩).run P M.w = .ok (.enter g (c.args.toList.map a.eval++vals).toArray) M.w:=by
     simp only[execOp,resolve,hcal,Deferred.ofValue,hfe,Sem.run_bind,Sem.run_pure,Result.andThen_ok,invoke]
     rw[ZlB he]
     simp
    simp only[Oper.wp,hrun,Oper.upon]
    refine Calls.mono hc ?_
    rintro e w' ⟨val,rfl,M',hw,hst⟩
    exact⟨M',val,rfl,hw,hst⟩
   | _=>rw[hg] at h;exact(Zo (h:=M.hp) h).elim
  | _=>rw[hcal] at h;exact(Zo (h:=M.hp) h).elim
 | _=>exact(Zo (h:=M.hp) h).elim
end
end Go.Eng
namespace Go.Eng
section
variable {P:Program}
structure Fs where
 sl:Nat→V
 hp:ZaG
structure Ent where
 dst:Option Nat
 v:V
 upd:List (Nat×Option Blk)
 log:List Nat
def Ent.mods (e:Ent):List Nat:=e.upd.map (·.1)
def Ent.recd (e:Ent):Rec:=⟨e.log,e.mods,false⟩
def ZfK (sl:Nat→V):Option Nat→V→Nat→V
 | some d,v=>fun t=>if t=d then v else sl t
 | none,_=>sl
def ZaN (F:Fs) (e:Ent):Fs:=⟨ZfK F.sl e.dst e.v,ZW F.hp e.upd⟩
noncomputable def St.F (s:St):Fs:=⟨s.slot,s.heap⟩
theorem ZF {α:Type} (p:Nat×α) (r:List (Nat×α)) (i:Nat):look (p :: r) i=if i=p.1 then some p.2 else look r i:=by
 obtain⟨t,v⟩:=p
 show(bif Nat.beq t i then some v else look r i)=_
 by_cases h:i=t
 ·subst h;simp
 ·have:Nat.beq t i=false:=by
   cases hb:Nat.beq t i
   ·rfl
   ·exact absurd (Nat.eq_of_beq_eq_true hb).symm h
  simp[this,h]
theorem ZnT (h:List (Nat×Option Blk)) (u:List (Nat×Option Blk)):(look (Zg5 h u):ZaG)=ZW (look h) u:=by
 induction u generalizing h with
 | nil=>rfl
 | cons p u ih=>
  simp only[Zg5,ZW]
  rw[ih]
  congr 1
  funext i
  rw[ZF]
theorem ZeK (s:St) (d:Nat) (v:V) (t:Nat):(look ((d,v) :: s.sl) t).getD .dead=if t=d then v else s.slot t:=by
 rw[ZF]
 by_cases h:t=d
 ·simp[h]
 ·simp[h,St.slot]
theorem put_lent (s:St) (dst:Option Nat) (v:V):(s.put dst v).lent=s.lent:=by cases dst <;> rfl
theorem app_F (s:St) (dst:Option Nat) (E:Eff) (log:List Nat):(s.app dst E).F=ZaN s.F ⟨dst,E.v,E.upd,log⟩:=by
 simp only[St.F,ZaN,Fs.mk.injEq]
 constructor
 ·funext t
  cases dst with
  | none=>rfl
  | some d=>simpa [St.app,St.slot,ZfK] using ZeK s d E.v t
 ·exact ZnT s.hp E.upd
theorem put_F (s:St) (dst:Option Nat) (v:V):(s.put dst v).F=ZaN s.F ⟨dst,v,[],[]⟩:=by
 simp only[St.F,ZaN,Fs.mk.injEq,ZW]
 constructor
 ·funext t
  cases dst with
  | none=>rfl
  | some d=>simpa [St.put,St.slot,ZfK] using ZeK s d v t
 ·cases dst <;> rfl
theorem ZjG (s:St) (t:Nat) (v:V) (h:s.slot t=v):(s.put (some t) v).F=s.F∧(s.put (some t) v).nid=s.nid:=by
 refine⟨?_,rfl⟩
 rw[put_F]
 simp only[St.F,ZaN,ZfK,ZW,Fs.mk.injEq,and_true]
 funext u
 by_cases e:u=t
 ·simp[e,h]
 ·simp[e]
def ZbA (all:List Oper) (F:Fs) (o:Oper):Option Bool:=
 match o.guard with
 | none=>some true
 | some (j,want)=>match all[j]?.bind (·.dst) with
  | none=>none
  | some t=>match F.sl t with
   | .bool b=>some (b == want)
   | .sk=>some false
   | _=>none
def ZiU (cfg:Cfg) (all:List Oper) (F:Fs) (nid:Nat) (o:Oper) (e:Ent):Prop:=
 e.dst=o.dst∧((ZbA all F o=some true∧ZbR cfg nid o (ev F.sl) F.hp=some (⟨e.v,e.upd⟩,e.log))∨
  (ZbA all F o=some false∧e.v = .sk∧e.upd=[]∧e.log=[]))
inductive Ents (cfg:Cfg) (all:List Oper):Fs→Nat→List Oper→List Ent→Prop where
 | nil (F:Fs) (nid:Nat):Ents cfg all F nid [] []
 | cons {F:Fs} {nid:Nat} {o:Oper} {r:List Oper} {e:Ent} {es:List Ent}:ZiU cfg all F nid o e→Ents cfg all (ZaN F e) (ZcW nid e.upd) r es→Ents cfg all F nid (o :: r) (e :: es)
def Zai (F:Fs) (es:List Ent):Fs:=es.foldl ZaN F
def ZeZ (nid:Nat) (es:List Ent):Nat:=es.foldl (fun n e=>ZcW n e.upd) nid
theorem Zeh {X:Type}:∀{c:List Bool} {k:Option X} {x:X},Zge c k=some x→ZdT c=true∧k=some x
 | [],_,_,h=>⟨rfl,h⟩
 | b :: c,k,x,h=>by
  cases b with
  | false=>cases h
  | true=>exact Zeh (c:=c) h
theorem ZgT {X:Type} {cfg:Cfg} {all:List Oper} {o:Oper} {s s0:St} (hF:s.F=s0.F) (hnid:s.nid=s0.nid) (hlent:s.lent=s0.lent) (hw:ZbA all s0.F o=some true) {tr:List Rec} {k:St→List Rec→Option X} {x:X}
  (h:ZeI cfg o s tr k=some x):∃e s',ZiU cfg all s0.F s0.nid o e∧s'.F=ZaN s0.F e∧s'.nid=ZcW s0.nid e.upd∧s'.lent=s0.lent∧k s' (e.recd :: tr)=some x:=by
 unfold ZeI at h
 split at h
 ·rename_i E log c he
  obtain⟨hc,h⟩:=Zeh h
  refine⟨⟨o.dst,E.v,E.upd,log⟩,s.app o.dst E,⟨rfl, .inl ⟨hw,?_⟩⟩,?_,?_,hlent,h⟩
  ·rw[←hF,←hnid];exact rm_at.2 ⟨c,he,hc⟩
  ·rw[app_F s o.dst E log,hF]
  ·simp[St.app,hnid]
 ·cases h
theorem ZoV {X:Type} {cfg:Cfg} {all:List Oper} {o:Oper} {s s0:St} (hF:s.F=s0.F) (hnid:s.nid=s0.nid) (hlent:s.lent=s0.lent) (hw:ZbA all s0.F o=some true) {tr:List Rec} {k:St→List Rec→Option X} {x:X}
  (h:Zd2 cfg o s tr k=some x):∃e s',ZiU cfg all s0.F s0.nid o e∧s'.F=ZaN s0.F e∧s'.nid=ZcW s0.nid e.upd∧s'.lent=s0.lent∧k s' (e.recd :: tr)=some x:=by
 unfold Zd2 at h
 split at h
 ·split at h
  ·rename_i b hb
   have hput:∀v,v=V.bool b→((s.put (some _) v).F=s0.F∧(s.put (some _) v).nid=s0.nid):=fun v hv=>by
    obtain⟨h1,h2⟩:=ZjG s _ v (hb.trans hv.symm)
    exact⟨h1.trans hF,h2.trans hnid⟩
   cases b with
   | true=>exact ZgT (hput _ rfl).1 (hput _ rfl).2 hlent hw h
   | false=>exact ZgT (hput _ rfl).1 (hput _ rfl).2 hlent hw h
  ·cases h
 ·exact ZgT hF hnid hlent hw h
theorem Zfk {X:Type} {cfg:Cfg} {all:List Oper}:∀(l:List Oper) (s:St) (tr:List Rec) (k:St→List Rec→Option X) (x:X),ZbG cfg all l s tr k=some x→
  ∃es s',Ents cfg all s.F s.nid l es∧s'.F=Zai s.F es∧s'.nid=ZeZ s.nid es∧s'.lent=s.lent∧k s' ((es.map Ent.recd).reverse++tr)=some x
 | [],s,tr,k,x,h=>⟨[],s, .nil _ _,rfl,rfl,rfl,h⟩
 | o :: r,s,tr,k,x,h=>by
  have hrun:∀s1:St,s1.F=s.F→s1.nid=s.nid→s1.lent=s.lent→ZbA all s.F o=some true→Zd2 cfg o s1 tr (fun s tr=>ZbG cfg all r s tr k)=some x→
    ∃es s',Ents cfg all s.F s.nid (o :: r) es∧s'.F=Zai s.F es∧s'.nid=ZeZ s.nid es∧s'.lent=s.lent∧k s' ((es.map Ent.recd).reverse++tr)=some x:=by
   intro s1 h1 h2 h2' h3 h4
   obtain⟨e,s',he,hs1,hs2,hs2',hk⟩:=ZoV h1 h2 h2' h3 h4
   obtain⟨es,s'',hes,hs3,hs4,hs5,hk2⟩:=Zfk r s' _ k x hk
   rw[hs1,hs2] at hes
   refine⟨e :: es,s'', .cons he hes,?_,?_,hs5.trans hs2',?_⟩
   ·rw[hs3,hs1];rfl
   ·rw[hs4,hs2];rfl
   ·simpa using hk2
  have hskip:∀s1:St,s1.F=s.F→s1.nid=s.nid→s1.lent=s.lent→ZbA all s.F o=some false→ZbG cfg all r (s1.put o.dst .sk) (⟨[],[],false⟩ :: tr) k=some x→
    ∃es s',Ents cfg all s.F s.nid (o :: r) es∧s'.F=Zai s.F es∧s'.nid=ZeZ s.nid es∧s'.lent=s.lent∧k s' ((es.map Ent.recd).reverse++tr)=some x:=by
   intro s1 h1 h2 h2' h3 h4
   obtain⟨es,s'',hes,hs3,hs4,hs5,hk2⟩:=Zfk r _ _ k x h4
   have hp:(s1.put o.dst .sk).F=ZaN s.F ⟨o.dst, .sk,[],[]⟩:=by rw[put_F,h1]
   have hq:(s1.put o.dst .sk).nid=s.nid:=by cases o.dst <;> exact h2
   rw[hp,hq] at hes
   refine⟨⟨o.dst, .sk,[],[]⟩ :: es,s'', .cons ⟨rfl, .inr ⟨h3,rfl,rfl,rfl⟩⟩ hes,?_,?_,hs5.trans ((put_lent _ _ _).trans h2'),?_⟩
   ·rw[hs3,hp];rfl
   ·rw[hs4,hq];rfl
   ·simpa [Ent.recd,Ent.mods] using hk2
  unfold ZbG at h
  split at h
  ·rename_i hg
   exact hrun s rfl rfl rfl (by simp[ZbA,hg]) h
  ·rename_i j want hg
   split at h
   ·cases h
   ·rename_i t ht
    split at h
    ·rename_i b hb
     have hw:ZbA all s.F o=some (b == want):=by
      have:s.F.sl t = .bool b:=hb
      simp[ZbA,hg,ht,this]
     have hput:∀v,v=V.bool b→((s.put (some t) v).F=s.F∧(s.put (some t) v).nid=s.nid):=fun v hv=>ZjG s t v (hb.trans hv.symm)
     cases want with
     | true=>
      cases b with
      | true=>exact hrun _ (hput _ rfl).1 (hput _ rfl).2 rfl hw h
      | false=>exact hskip _ (hput _ rfl).1 (hput _ rfl).2 rfl hw h
     | false=>
      cases b with
      | true=>exact hskip _ (hput _ rfl).1 (hput _ rfl).2 rfl hw h
      | false=>exact hrun _ (hput _ rfl).1 (hput _ rfl).2 rfl hw h
    ·rename_i hb
     have hw:ZbA all s.F o=some false:=by
      have:s.F.sl t = .sk:=hb
      simp[ZbA,hg,ht,this]
     exact hskip s rfl rfl rfl hw h
    ·cases h
theorem Ents.get {cfg:Cfg} {all:List Oper} {F:Fs} {nid:Nat} {l:List Oper} {es:List Ent} (h:Ents cfg all F nid l es):
  es.length=l.length∧∀i o,l[i]? = some o→∃e,es[i]? = some e∧ZiU cfg all (Zai F (es.take i)) (ZeZ nid (es.take i)) o e:=by
 induction h with
 | nil=>simp
 | @cons F nid o r e es he _ ih=>
  refine⟨by simp[ih.1],fun i o' hi=>?_⟩
  cases i with
  | zero=>simp at hi;subst hi;exact⟨e,rfl,he⟩
  | succ i=>
   obtain⟨e',h1,h2⟩:=ih.2 i o' (by simpa using hi)
   exact⟨e',by simpa using h1,h2⟩
theorem ZpA (nid:Nat) (u:List (Nat×Option Blk)):nid≤ZcW nid u∧∀p∈u,p.1<ZcW nid u:=by
 induction u generalizing nid with
 | nil=>simp[ZcW]
 | cons p u ih=>
  obtain⟨h1,h2⟩:=ih (bif Nat.ble nid p.1 then p.1+1 else nid)
  have h3:nid≤(bif Nat.ble nid p.1 then p.1+1 else nid)∧p.1<(bif Nat.ble nid p.1 then p.1+1 else nid):=by
   cases hb:Nat.ble nid p.1
   ·have:¬nid≤p.1:=fun h=>by rw[Nat.ble_eq_true_of_le h] at hb;cases hb
    simp;omega
   ·have:=Nat.le_of_ble_eq_true hb
    simp;omega
  simp only[ZcW]
  refine⟨by omega,fun q hq=>?_⟩
  rcases List.mem_cons.1 hq with rfl | hq
  ·omega
  ·exact h2 q hq
theorem ZcB {hp:ZaG} {u:List (Nat×Option Blk)} {i:Nat} (h:∀p∈u,p.1≠i):ZW hp u i=hp i:=by
 induction u generalizing hp with
 | nil=>rfl
 | cons p u ih=>
  simp only[ZW]
  rw[ih fun q hq=>h q (List.mem_cons_of_mem _ hq)]
  exact if_neg fun e=>h p (by simp) e.symm
theorem Zik {F:Fs} {nid:Nat} {e:Ent} (h:∀id,nid≤id→F.hp id=none):∀id,ZcW nid e.upd≤id→(ZaN F e).hp id=none:=by
 intro id hid
 obtain⟨h1,h2⟩:=ZpA nid e.upd
 show ZW F.hp e.upd id=none
 rw[ZcB fun p hp he=>by have:=h2 p hp;omega]
 exact h id (by omega)
theorem Zil {F:Fs} {nid:Nat} (h:∀id,nid≤id→F.hp id=none) (es:List Ent):∀id,ZeZ nid es≤id→(Zai F es).hp id=none:=by
 induction es generalizing F nid with
 | nil=>exact h
 | cons e es ih=>exact ih (Zik h)
structure RelF (tab:Tab) (E:Entry) (ρ0 M:Mem) (F:Fs) (a:Act):Prop where
 mem:MemOk tab E M
 le:MemLe E ρ0 M
 hp:M.hp=F.hp
 slots:Slots tab E M F.sl a
theorem Zl2 {a:Act} {d:Nat} {v:Value} (h:d<a.tmps.size):(a.put (some d) v).eval (.tmp d)=v:=by
 simp[Act.put,Act.eval,h]
theorem Zlh {a:Act} {d t:Nat} {v:Value} (h:t≠d):(a.put (some d) v).eval (.tmp t)=a.eval (.tmp t):=by
 simp[Act.put,Act.eval,Array.getElem?_setIfInBounds_ne (Ne.symm h)]
theorem Slots.put {tab:Tab} {E:Entry} {M:Mem} {sl:Nat→V} {a:Act} (h:Slots tab E M sl a) {dst:Option Nat} {x:V} {v:Value} (hd:∀d,dst=some d→d<a.tmps.size) (hv:M.Rs tab E x v):Slots tab E M (ZfK sl dst x) (a.put dst v):=by
 cases dst with
 | none=>exact h
 | some d=>
  intro t
  by_cases e:t=d
  ·subst e
   rw[Zl2 (hd _ rfl)]
   simpa [ZfK] using hv
  ·rw[Zlh e]
   simpa [ZfK,e] using h t
theorem Zim {tab:Tab} {E:Entry} {ρ0 M:Mem} {F:Fs} {a:Act} (hR:RelF tab E ρ0 M F a) {ops:Array Oper} {o:Oper}:∀b,ZbA ops.toList F o=some b→Region.wanted o (yielded ops a.tmps)=b:=by
 intro b hb
 unfold ZbA at hb
 unfold Region.wanted
 cases hg:o.guard with
 | none=>rw[hg] at hb;simpa using hb
 | some gw=>
  obtain⟨g,want⟩:=gw
  rw[hg] at hb
  simp only[] at hb ⊢
  cases ht:(ops.toList[g]?).bind (·.dst) with
  | none=>rw[ht] at hb;cases hb
  | some t=>
   rw[ht] at hb
   simp only[] at hb
   cases hx:F.sl t with
   | bool c=>
    rw[hx] at hb
    simp only[Option.some.injEq] at hb
    have hv:=hR.slots t
    rw[hx] at hv
    have hv:=hv.bool
    have:yielded ops a.tmps g=some c:=by
     unfold yielded
     have ht':(ops[g]?).bind (·.dst)=some t:=by rw[←Array.getElem?_toList];exact ht
     rw[ht']
     simp only[Act.eval] at hv
     have hv':a.tmps[t]? = some (.bool c):=by
      cases hq:a.tmps[t]? with
      | none=>simp[Array.getD_eq_getD_getElem?,hq,undef] at hv
      | some u=>simp[Array.getD_eq_getD_getElem?,hq] at hv;rw[hv]
     simp[hv']
    rw[this]
    rw[←hb]
    cases c <;> cases want <;> rfl
   | sk=>
    rw[hx] at hb
    simp only[Option.some.injEq] at hb
    subst hb
    have hv:=hR.slots t
    rw[hx] at hv
    have hv:a.eval (.tmp t)=undef:=by
     generalize a.eval (.tmp t)=u at hv
     cases hv with | tree hv=>cases hv;rfl
    have:yielded ops a.tmps g=none:=by
     unfold yielded
     have ht':(ops[g]?).bind (·.dst)=some t:=by rw[←Array.getElem?_toList];exact ht
     rw[ht']
     simp only[Act.eval] at hv
     cases hq:a.tmps[t]? with
     | none=>simp[hq]
     | some u=>simp[Array.getD_eq_getD_getElem?,hq] at hv;simp[hq,hv,undef]
    rw[this];rfl
   | _=>rw[hx] at hb;cases hb
theorem ZmB {cfg:Cfg} (hT:ZB P cfg.tab) (hS:Zbk P cfg.tab cfg.sums) {E:Entry} {ρ0 M:Mem} {F:Fs} {a:Act} (hR:RelF cfg.tab E ρ0 M F a) {ops:Array Oper} {i nid:Nat} {o:Oper} (ho:ops[i]? = some o) {e:Ent}
  (he:ZiU cfg ops.toList F nid o e) (hfresh:∀id∈e.mods,nid≤id→F.hp id=none) (hd:∀d,o.dst=some d→d<a.tmps.size) {Q:Exit→Act→World→Prop} {K:Act→World→Prop}
  (hK:∀M' v,RelF cfg.tab E ρ0 M' (ZaN F e) (a.put o.dst v)→(a.put o.dst v).tmps.size=a.tmps.size→(a.put o.dst v).defers=a.defers→K (a.put o.dst v) M'.w):wpOp P ops Q i K a M.w:=by
 have hsz:∀v,(a.put o.dst v).tmps.size=a.tmps.size∧(a.put o.dst v).defers=a.defers:=fun v=>by cases o.dst <;> simp[Act.put]
 obtain⟨he1,he2⟩:=he
 have hwant:=Zim hR (ops:=ops) (o:=o)
 unfold wpOp
 simp only[ho]
 rcases he2 with⟨hw,hef⟩ | ⟨hw,hv,hu,hl⟩
 ·rw[hwant _ hw]
  simp only[if_true]
  refine .inl (Oper.wp_mono (K:=OpOk cfg.tab E M o a ⟨e.v,e.upd⟩) ?_ (ZmA hT hS hR.mem hR.slots (nid:=nid) (log:=e.log) ?_ ?_ Q))
  ·rintro a' w' ⟨M',val,rfl,rfl,hst⟩
   refine hK M' val ⟨hst.mem,hR.le.trans hst.le,?_,?_⟩ (hsz _).1 (hsz _).2
   ·rw[hst.hp,hR.hp];rfl
   ·simp only[ZaN,he1]
    exact Slots.put (fun t=>hst.le.rs (hR.slots t)) hd hst.val
  ·rw[hR.hp];exact hef
  ·intro id hid hge
   rw[hR.hp];exact hfresh id hid hge
 ·rw[hwant _ hw]
  simp only[Bool.false_eq_true,if_false]
  refine hK M undef ⟨hR.mem,hR.le,?_,?_⟩ (hsz _).1 (hsz _).2
  ·rw[hR.hp];simp[ZaN,hu,ZW]
  ·simp only[ZaN,he1,hv]
   exact Slots.put hR.slots hd (.tree .sk)
end
end Go.Eng
namespace Go.Eng
section
variable {P:Program}
theorem Zoo {cfg:Cfg} (hT:ZB P cfg.tab) (hS:Zbk P cfg.tab cfg.sums) {E:Entry} {ρ0:Mem} {ops:Array Oper} {Q:Exit→Act→World→Prop}:
  ∀(l pre:List Oper) (F:Fs) (nid:Nat) (es:List Ent) (M:Mem) (a:Act),ops.toList=pre++l→Ents cfg ops.toList F nid l es→RelF cfg.tab E ρ0 M F a→(∀id,nid≤id→F.hp id=none)→
   (∀o∈l,∀d,o.dst=some d→d<a.tmps.size)→
   (∀M' a',RelF cfg.tab E ρ0 M' (Zai F es) a'→a'.tmps.size=a.tmps.size→a'.defers=a.defers→Q .normal a' M'.w)→wpOps P ops Q (List.range' pre.length l.length) a M.w
 | [],pre,F,nid,es,M,a,hl,he,hR,hf,hd,hK=>by
  cases he
  exact hK M a hR rfl rfl
 | o :: l,pre,F,nid,es,M,a,hl,he,hR,hf,hd,hK=>by
  cases he with
  | @cons _ _ _ _ e es he hes=>
  rw[List.length_cons,List.range'_succ,wpOps_cons]
  have ho:ops[pre.length]? = some o:=by
   rw[←Array.getElem?_toList,hl,List.getElem?_append_right (Nat.le_refl _)];simp
  refine ZmB hT hS hR ho he (fun id _ hge=>hf id hge) (hd o (by simp)) fun M' v hR' hsz hdf=>?_
  have:=Zoo hT hS l (pre++[o]) (ZaN F e) (ZcW nid e.upd) es M' (a.put o.dst v) (by simp[hl]) hes hR' (Zik hf) (fun o' ho' d hd'=>by rw[hsz];exact hd o' (by simp[ho']) d hd')
   fun M'' a'' h1 h2 h3=>hK M'' a'' h1 (h2.trans hsz) (h3.trans hdf)
  simpa using this
theorem ZoW {cfg:Cfg} (hT:ZB P cfg.tab) (hS:Zbk P cfg.tab cfg.sums) {E:Entry} {ρ0:Mem} {ops:Array Oper} {Q:Exit→Act→World→Prop} {F:Fs} {nid:Nat} {es:List Ent} {M:Mem} {a:Act} {rid:Nat}
  (he:Ents cfg ops.toList F nid ops.toList es) (hR:RelF cfg.tab E ρ0 M F a) (hf:∀id,nid≤id→F.hp id=none) (hd:∀o∈ops.toList,∀d,o.dst=some d→d<a.tmps.size)
  (hK:∀M' a',RelF cfg.tab E ρ0 M' (Zai F es) a'→a'.tmps.size=a.tmps.size→a'.defers=a.defers→Q .normal a' M'.w):(Code.region rid ops false).wp P Q a M.w:=by
 refine wp_region ?_
 have:=Zoo hT hS ops.toList [] F nid es M a rfl he hR hf hd hK
 simpa [List.range_eq_range'] using this
def runS (S:Nat→Bool):Nat→Fs→List Ent→Fs
 | _,F,[]=>F
 | k,F,e :: r=>runS S (k+1) (if S k then ZaN F e else F) r
theorem ZmC {S:Nat→Bool}:∀(es:List Ent) (k:Nat) (F:Fs),(∀j,j<es.length→S (k+j)=true)→runS S k F es=Zai F es
 | [],k,F,_=>rfl
 | e :: es,k,F,h=>by
  have h0:=h 0 (by simp)
  simp only[Nat.add_zero] at h0
  simp only[runS,h0,if_true,Zai,List.foldl_cons]
  exact ZmC es (k+1) (ZaN F e) fun j hj=>by rw[show k+1+j=k+(j+1) from by omega];exact h (j+1) (by simpa using hj)
theorem ZlD {S:Nat→Bool}:∀(es:List Ent) (k:Nat) (F:Fs),(∀j,j<es.length→S (k+j)=false)→runS S k F es=F
 | [],k,F,_=>rfl
 | e :: es,k,F,h=>by
  have h0:=h 0 (by simp)
  simp only[Nat.add_zero] at h0
  simp only[runS,h0,Bool.false_eq_true,if_false]
  exact ZlD es (k+1) F fun j hj=>by rw[show k+1+j=k+(j+1) from by omega];exact h (j+1) (by simpa using hj)
theorem ZjH {hp hp':ZaG} {u:List (Nat×Option Blk)} {i:Nat} (h:∃p∈u,p.1=i):ZW hp u i=ZW hp' u i:=by
 induction u generalizing hp hp' with
 | nil=>obtain⟨p,hp,_⟩:=h;simp at hp
 | cons p u ih=>
  simp only[ZW]
  by_cases hu:∃q∈u,q.1=i
  ·exact ih hu
  ·have hn:∀q∈u,q.1≠i:=fun q hq e=>hu ⟨q,hq,e⟩
   rw[ZcB hn,ZcB hn]
   obtain⟨q,hq,e⟩:=h
   rcases List.mem_cons.1 hq with rfl | hq
   ·simp[e]
   ·exact absurd e (hn q hq)
def ZmD (a b:Ent):Prop:=(∀d,a.dst=some d→b.dst≠some d)∧∀k∈a.mods,k∉b.mods
theorem ZpB {F:Fs} {a b:Ent} (h:ZmD a b):ZaN (ZaN F a) b=ZaN (ZaN F b) a:=by
 obtain⟨h1,h2⟩:=h
 simp only[ZaN,Fs.mk.injEq]
 constructor
 ·funext t
  cases ha:a.dst with
  | none=>rfl
  | some d=>
   cases hb:b.dst with
   | none=>rfl
   | some d'=>
    have hne:d'≠d:=fun e=>h1 d ha (by rw[hb,e])
    simp only[ZfK]
    by_cases e1:t=d <;> by_cases e2:t=d' <;> simp_all
 ·funext i
  by_cases ka:∃p∈a.upd,p.1=i
  ·have kb:∀p∈b.upd,p.1≠i:=fun p hp e=>by
    obtain⟨q,hq,e'⟩:=ka
    exact h2 i (List.mem_map.2 ⟨q,hq,e'⟩) (List.mem_map.2 ⟨p,hp,e⟩)
   rw[ZcB kb]
   exact ZjH ka
  ·have ka':∀p∈a.upd,p.1≠i:=fun p hp e=>ka ⟨p,hp,e⟩
   rw[ZcB ka']
   by_cases kb:∃p∈b.upd,p.1=i
   ·exact ZjH kb
   ·have kb':∀p∈b.upd,p.1≠i:=fun p hp e=>kb ⟨p,hp,e⟩
    rw[ZcB kb',ZcB kb',ZcB ka']
theorem ZlE {S:Nat→Bool} {x:Ent}:∀(es:List Ent) (k:Nat) (F:Fs),(∀j e,es[j]? = some e→S (k+j)=true→ZmD x e)→runS S k (ZaN F x) es=ZaN (runS S k F es) x
 | [],k,F,_=>rfl
 | e :: es,k,F,h=>by
  have ih:=fun F=>ZlE (S:=S) (x:=x) es (k+1) F fun j e' hj hs=>h (j+1) e' (by simpa using hj) (by rw[←hs];congr 1;omega)
  simp only[runS]
  cases hk:S k with
  | true=>
   simp only[if_true]
   rw[ZpB (h 0 e rfl (by simpa using hk)),ih]
  | false=>simp only[Bool.false_eq_true,if_false];rw[ih]
theorem ZmE {S S':Nat→Bool} {x:Ent}:∀(es:List Ent) (i k:Nat) (F:Fs),es[i]? = some x→S (k+i)=false→S' (k+i)=true→(∀j,j≠k+i→S' j=S j)→
  (∀j e,i<j→es[j]? = some e→S (k+j)=true→ZmD x e)→runS S' k F es=ZaN (runS S k F es) x
 | [],i,k,F,h,_,_,_,_=>by simp at h
 | e :: es,0,k,F,h,h1,h2,h3,h4=>by
  simp at h h1 h2;subst h
  simp only[runS,h1,h2,if_true,Bool.false_eq_true,if_false]
  have:∀(l:List Ent) (m:Nat) (G:Fs),k<m→runS S' m G l=runS S m G l:=by
   intro l
   induction l with
   | nil=>intros;rfl
   | cons y l ih=>intro m G hm;simp only[runS];rw[h3 m (by omega)];exact ih (m+1) _ (by omega)
  rw[this es (k+1) _ (by omega)]
  exact ZlE es (k+1) F fun j e' hj hs=>h4 (j+1) e' (by omega) (by simpa using hj) (by rw[←hs];congr 1;omega)
 | e :: es,i+1,k,F,h,h1,h2,h3,h4=>by
  simp only[runS]
  rw[h3 k (by omega)]
  exact ZmE es i (k+1) _ (by simpa using h) (by rw[←h1];congr 1;omega) (by rw[←h2];congr 1;omega) (fun j hj=>h3 j (by omega))
   fun j e' hij hj hs=>h4 (j+1) e' (by omega) (by simpa using hj) (by rw[←hs];congr 1;omega)
theorem ZhE {α:Type} {S:Nat→Bool} (obs:Fs→α) (touch:Ent→Prop) (h1:∀F e,¬touch e→obs (ZaN F e)=obs F) (h2:∀F F' e,obs F=obs F'→obs (ZaN F e)=obs (ZaN F' e)):
  ∀(es:List Ent) (m k:Nat) (F F':Fs),obs F=obs F'→(∀j e,es[j]? = some e→j<m→S (k+j)=false→¬touch e)→(∀j e,es[j]? = some e→m≤j→S (k+j)=true→¬touch e)→
   obs (runS S k F es)=obs (Zai F' (es.take m))
 | [],m,k,F,F',h,_,_=>by simpa [runS,Zai] using h
 | e :: es,m,k,F,F',h,h3,h4=>by
  simp only[runS]
  cases m with
  | zero=>
   have hk:obs (if S k=true then ZaN F e else F)=obs F':=by
    cases hs:S k with
    | true=>simp only[if_true];rw[h1 F e (h4 0 e rfl (Nat.le_refl _) (by simpa using hs))];exact h
    | false=>simpa using h
   have:=ZhE obs touch h1 h2 es 0 (k+1) _ F' hk (fun j e' _ hj _=>by omega) fun j e' hj _ hs=>h4 (j+1) e' (by simpa using hj) (by omega) (by rw[←hs];congr 1;omega)
   simpa [Zai] using this
  | succ m=>
   have hk:obs (if S k=true then ZaN F e else F)=obs (ZaN F' e):=by
    cases hs:S k with
    | true=>simp only[if_true];exact h2 F F' e h
    | false=>simp only[Bool.false_eq_true,if_false];rw[h1 F' e (h3 0 e rfl (by omega) (by simpa using hs))];exact h
   have:=ZhE obs touch h1 h2 es m (k+1) _ (ZaN F' e) hk (fun j e' hj hm hs=>h3 (j+1) e' (by simpa using hj) (by omega) (by rw[←hs];congr 1;omega))
    fun j e' hj hm hs=>h4 (j+1) e' (by simpa using hj) (by omega) (by rw[←hs];congr 1;omega)
   simpa [Zai] using this
theorem ZpC {S:Nat→Bool} {es:List Ent} {m:Nat} {F:Fs} {t:Nat} (h3:∀j e,es[j]? = some e→j<m→S j=false→e.dst≠some t) (h4:∀j e,es[j]? = some e→m≤j→S j=true→e.dst≠some t):
  (runS S 0 F es).sl t=(Zai F (es.take m)).sl t:=by
 refine ZhE (fun F=>F.sl t) (fun e=>e.dst=some t) (fun F e h=>?_) (fun F F' e h=>?_) es m 0 F F rfl (fun j e hj hm hs=>h3 j e hj hm (by simpa using hs)) fun j e hj hm hs=>h4 j e hj hm (by simpa using hs)
 ·simp only[ZaN]
  cases hd:e.dst with
  | none=>rfl
  | some d=>simp only[ZfK];rw[if_neg];intro e';exact h (by rw[hd,e'])
 ·simp only[ZaN]
  cases hd:e.dst with
  | none=>exact h
  | some d=>simp only[ZfK];split <;> first | rfl | exact h
theorem ZpD {S:Nat→Bool} {es:List Ent} {m:Nat} {F:Fs} {i:Nat} (h3:∀j e,es[j]? = some e→j<m→S j=false→i∉e.mods) (h4:∀j e,es[j]? = some e→m≤j→S j=true→i∉e.mods):
  (runS S 0 F es).hp i=(Zai F (es.take m)).hp i:=by
 refine ZhE (fun F=>F.hp i) (fun e=>i∈e.mods) (fun F e h=>?_) (fun F F' e h=>?_) es m 0 F F rfl (fun j e hj hm hs=>h3 j e hj hm (by simpa using hs)) fun j e hj hm hs=>h4 j e hj hm (by simpa using hs)
 ·exact ZcB fun p hp e'=>h (List.mem_map.2 ⟨p,hp,e'⟩)
 ·by_cases hk:i∈e.mods
  ·obtain⟨p,hp,e'⟩:=List.mem_map.1 hk
   exact ZjH ⟨p,hp,e'⟩
  ·have hn:∀p∈e.upd,p.1≠i:=fun p hp e'=>hk (List.mem_map.2 ⟨p,hp,e'⟩)
   show ZW F.hp e.upd i=ZW F'.hp e.upd i
   rw[ZcB hn,ZcB hn];exact h
theorem ZmF (g:Nat→Nat):∀(l:List Edge) (s i:Nat),(l.foldl (fun s e=>if Region.binds .any e then s ||| 2 ^ e.on ||| g e.on else s) s).testBit i=true→
  s.testBit i=true∨∃e∈l,Region.binds .any e=true∧(i=e.on∨(g e.on).testBit i=true)
 | [],s,i,h=>.inl h
 | e :: l,s,i,h=>by
  rcases ZmF g l _ i h with h | ⟨e',he,hb,h⟩
  ·dsimp only at h
   cases hb:Region.binds .any e with
   | false=>rw[hb] at h;exact .inl h
   | true=>
    rw[hb] at h
    simp only[if_true,Nat.testBit_or,Nat.testBit_two_pow,Bool.or_eq_true,decide_eq_true_eq] at h
    rcases h with(h | h) | h
    ·exact .inl h
    ·exact .inr ⟨e,by simp,hb, .inl h.symm⟩
    ·exact .inr ⟨e,by simp,hb, .inr h⟩
  ·exact .inr ⟨e',by simp[he],hb,h⟩
theorem Zjl {ops:Array Oper} {S:Nat→Prop} (hS:∀j o,ops[j]? = some o→S j→∀e∈o.after,Region.binds .any e=true→S e.on) {j i:Nat} (hj:S j) (h:((Region.before ops).getD j 0).testBit i=true):S i:=by
 have key:∀(l:List Oper) (acc:Array Nat),(∃pre,ops.toList=pre++l∧pre.length=acc.size)→(∀j i,S j→(acc.getD j 0).testBit i=true→S i)→
   ∀j i,S j→((l.foldl (fun acc o=>acc.push (o.after.foldl (fun s e=>if Region.binds .any e then s ||| 2 ^ e.on ||| acc.getD e.on 0 else s) 0)) acc).getD j 0).testBit i=true→S i:=by
  intro l
  induction l with
  | nil=>intro acc _ h;exact h
  | cons o l ih=>
   rintro acc ⟨pre,hp,hl⟩ hacc
   refine ih _ ⟨pre++[o],by simp[hp],by simp[hl]⟩ fun j i hj hb=>?_
   by_cases hjs:j=acc.size
   ·subst hjs
    simp only[Array.getD_eq_getD_getElem?,Array.getElem?_push_size,Option.getD_some] at hb
    rw[←Array.foldl_toList] at hb
    have ho:ops[acc.size]? = some o:=by
     rw[←Array.getElem?_toList,hp,←hl,List.getElem?_append_right (Nat.le_refl _)];simp
    rcases ZmF (fun k=>acc.getD k 0) o.after.toList 0 i (by simpa [Array.getD_eq_getD_getElem?] using hb) with hz | ⟨e,he,hbd,hq⟩
    ·simp at hz
    ·have hon:=hS _ o ho hj e (by simpa using he) hbd
     rcases hq with rfl | hq
     ·exact hon
     ·exact hacc _ _ hon hq
   ·refine hacc j i hj ?_
    rw[←hb]
    congr 1
    simp only[Array.getD_eq_getD_getElem?,Array.getElem?_push,if_neg hjs]
 have:=key ops.toList #[] ⟨[],by simp,rfl⟩ (by simp) j i hj
 refine this ?_
 unfold Region.before at h
 rw[←Array.foldl_toList] at h
 exact h
end
end Go.Eng
namespace Go.Eng
section
def Local {α:Type} (m:RM α):Prop:=∀h h' a l,m h=some (a,l)→(∀i∈l,h' i=h i)→m h'=some (a,l)
theorem Local.ret {α:Type} (a:α):Local (RM.ret a):=fun h h' b l e _=>by
 cases Zm (h:=h) e;rfl
theorem Local.fail {α:Type}:Local (RM.fail:RM α):=fun h h' b l e _=>(Zo (h:=h) e).elim
theorem Local.lift {α:Type} (o:Option α):Local (RM.lift o):=by
 cases o with
 | none=>exact .fail
 | some a=>exact .ret a
theorem Local.bind {α β:Type} {m:RM α} {f:α→RM β} (hm:Local m) (hf:∀a,Local (f a)):Local (RM.bind m f):=fun h h' b l e k=>by
 obtain⟨a,l1,b',l2,h1,h2,h3⟩:=Zj e
 cases h3
 have e1:=hm h h' a l1 h1 fun i hi=>k i (List.mem_append_left _ hi)
 have e2:=hf a h h' b l2 h2 fun i hi=>k i (List.mem_append_right _ hi)
 rw[rm_at] at e1 e2 ⊢
 obtain⟨c1,e1,f1⟩:=e1
 obtain⟨c2,e2,f2⟩:=e2
 exact⟨c1++c2,by simp only[RM.bind,e1,e2],by rw[Zja,f1,f2];rfl⟩
theorem Local.test {α:Type} {m:RM α} (b:Bool) (hm:Local m):Local (RM.test b m):=fun h h' a l e k=>by
 obtain⟨h1,h2⟩:=Zw e
 have e1:=hm h h' a l h2 k
 rw[rm_at] at e1 ⊢
 obtain⟨c1,e1,f1⟩:=e1
 exact⟨b :: c1,by simp only[RM.test,e1],by simp[ZdT,h1,f1]⟩
theorem Local.get (i:Nat):Local (RM.get i):=fun h h' b l e k=>by
 obtain⟨h1,h2⟩:=ZaH e
 dsimp only at h1 h2
 subst h2
 rw[rm_at]
 exact⟨[],by simp only[RM.get,k i (by simp),h1],rfl⟩
theorem Zs (x:V):Local (ZdW x):=by
 unfold ZdW
 repeat' (first | assumption | exact Local.ret _ | exact Local.fail | exact Local.lift _ | exact Local.get _ | refine Local.bind ?_ (fun _=>?_) | refine Local.test _ ?_ | split)
theorem ZI {f:V→RM (V×List Nat)} (hf:∀v,Local (f v)):∀xs,Local (Zb2 f xs)
 | []=>.ret _
 | x :: xs=>.bind (hf x) fun _=>.bind (ZI hf xs) fun _=>.ret _
theorem ZH (x:V):Local (ZdO x):=by
 unfold ZdO
 repeat' (first | assumption | exact Local.ret _ | exact Local.fail | exact Local.lift _ | exact Local.get _ | exact ZI Zs _ | apply Zs | refine Local.bind ?_ (fun _=>?_) | refine Local.test _ ?_ | split)
theorem Zaf (x:V):Local (ZfJ x):=by
 unfold ZfJ
 repeat' (first | assumption | exact Local.ret _ | exact Local.fail | exact Local.lift _ | exact Local.get _ | exact ZI Zs _ | exact ZI ZH _ | apply Zs | apply ZH | refine Local.bind ?_ (fun _=>?_) | refine Local.test _ ?_ | split)
theorem ZO (tab:Tab) (x:V):Local (ZiM tab x):=by
 unfold ZiM
 repeat' (first | assumption | exact Local.ret _ | exact Local.fail | exact Local.lift _ | exact Local.get _ | exact ZI Zs _ | apply Zs | apply ZH | apply Zaf | refine Local.bind ?_ (fun _=>?_) | refine Local.test _ ?_ | split)
theorem ZR (tab:Tab):∀xs,Local (Zg2 tab xs)
 | []=>.ret _
 | x :: xs=>.bind (ZO tab x) fun _=>.bind (ZR tab xs) fun _=>.ret _
theorem Z1 (x:V):Local (Zb3 x):=by
 unfold Zb3
 repeat' (first | assumption | exact Local.ret _ | exact Local.fail | exact Local.lift _ | exact Local.get _ | exact ZI Zs _ | apply Zs | apply ZH | apply Zaf | apply ZO | apply ZR | refine Local.bind ?_ (fun _=>?_) | refine Local.test _ ?_ | split)
theorem ZS (m:TypeId→List V→V) (x:V):Local (Zdh m x):=by
 unfold Zdh
 repeat' (first | assumption | exact Local.ret _ | exact Local.fail | exact Local.lift _ | exact Local.get _ | exact ZI Zs _ | exact ZI Z1 _ | apply Zs | apply ZH | apply Zaf | apply ZO | apply ZR | apply Z1 | refine Local.bind ?_ (fun _=>?_) | refine Local.test _ ?_ | split)
theorem ZaI (x:V):Local (lenV x):=by
 unfold lenV
 repeat' (first | assumption | exact Local.ret _ | exact Local.fail | exact Local.lift _ | exact Local.get _ | exact ZI Zs _ | apply Zs | apply ZH | apply Zaf | apply ZO | apply ZR | apply Z1 | apply ZS | refine Local.bind ?_ (fun _=>?_) | refine Local.test _ ?_ | split)
theorem ZaO (e:TypeId) (ty:Ty) (x:V):Local (ZeC e ty x):=by
 unfold ZeC
 repeat' (first | assumption | exact Local.ret _ | exact Local.fail | exact Local.lift _ | exact Local.get _ | exact ZI Zs _ | apply Zs | apply ZH | apply Zaf | apply ZO | apply ZR | apply Z1 | apply ZS | apply ZaI | refine Local.bind ?_ (fun _=>?_) | refine Local.test _ ?_ | split)
theorem ZaM (tab:Tab) (t:TypeId) (p:V):Local (Zgx tab t p):=by
 unfold Zgx
 repeat' (first | assumption | exact Local.ret _ | exact Local.fail | exact Local.lift _ | exact Local.get _ | exact ZI Zs _ | apply Zs | apply ZH | apply Zaf | apply ZO | apply ZR | apply Z1 | apply ZS | apply ZaI | apply ZaO | refine Local.bind ?_ (fun _=>?_) | refine Local.test _ ?_ | split)
theorem ZaJ (tab:Tab) (t:TypeId) (p v:V):Local (Zg3 tab t p v):=by
 unfold Zg3
 repeat' (first | assumption | exact Local.ret _ | exact Local.fail | exact Local.lift _ | exact Local.get _ | exact ZI Zs _ | apply Zs | apply ZH | apply Zaf | apply ZO | apply ZR | apply Z1 | apply ZS | apply ZaI | apply ZaO | apply ZaM | refine Local.bind ?_ (fun _=>?_) | refine Local.test _ ?_ | split)
theorem Zaa (tab:Tab) (t:TypeId) (x i:V):Local (Zec tab t x i):=by
 unfold Zec
 repeat' (first | assumption | exact Local.ret _ | exact Local.fail | exact Local.lift _ | exact Local.get _ | exact ZI Zs _ | apply Zs | apply ZH | apply Zaf | apply ZO | apply ZR | apply Z1 | apply ZS | apply ZaI | apply ZaO | apply ZaM | apply ZaJ | refine Local.bind ?_ (fun _=>?_) | refine Local.test _ ?_ | split)
theorem ZaQ (d n:Nat) (x:Option V):Local (ZdI d n x):=by
 unfold ZdI
 repeat' (first | exact Local.ret _ | exact Local.fail | refine Local.test _ ?_ | split)
theorem Za6 (tab:Tab) (t:TypeId) (x:V) (lo hi mx:Option V):Local (Zh4 tab t x lo hi mx):=by
 unfold Zh4
 repeat' (first | assumption | exact ZaQ _ _ _ | exact Local.ret _ | exact Local.fail | exact Local.lift _ | exact Local.get _ | exact ZI Zs _ | apply Zs | apply ZH | apply Zaf | apply ZO | apply ZR | apply Z1 | apply ZS | apply ZaI | apply ZaO | apply ZaM | apply ZaJ | apply Zaa | refine Local.bind ?_ (fun _=>?_) | refine Local.test _ ?_ | split)
theorem Zbl (tab:Tab) (t:TypeId) (x:V) (lo hi mx:Option V):Local (Zfx tab t x lo hi mx):=by
 unfold Zfx
 repeat' (first | assumption | exact ZaQ _ _ _ | exact Local.ret _ | exact Local.fail | exact Local.lift _ | exact Local.get _ | exact ZI Zs _ | apply Zs | apply ZH | apply Zaf | apply ZO | apply ZR | apply Z1 | apply ZS | apply ZaI | apply ZaO | apply ZaM | apply ZaJ | apply Zaa | apply Za6 | refine Local.bind ?_ (fun _=>?_) | refine Local.test _ ?_ | split)
theorem ZbI (e:TypeId) (x:V):Local (baseV e x):=by
 unfold baseV
 repeat' (first | assumption | exact ZaQ _ _ _ | exact Local.ret _ | exact Local.fail | exact Local.lift _ | exact Local.get _ | exact ZI Zs _ | apply Zs | apply ZH | apply Zaf | apply ZO | apply ZR | apply Z1 | apply ZS | apply ZaI | apply ZaO | apply ZaM | apply ZaJ | apply Zaa | apply Za6 | apply Zbl | refine Local.bind ?_ (fun _=>?_) | refine Local.test _ ?_ | split)
theorem Zb6 (e:TypeId) (ty:Ty) (x:V):Local (Zj2 e ty x):=by
 unfold Zj2
 repeat' (first | assumption | exact ZaQ _ _ _ | exact Local.ret _ | exact Local.fail | exact Local.lift _ | exact Local.get _ | exact ZI Zs _ | apply Zs | apply ZH | apply Zaf | apply ZO | apply ZR | apply Z1 | apply ZS | apply ZaI | apply ZaO | apply ZaM | apply ZaJ | apply Zaa | apply Za6 | apply Zbl | apply ZbI | refine Local.bind ?_ (fun _=>?_) | refine Local.test _ ?_ | split)
theorem ZbQ (tab:Tab) (t t2:TypeId) (nid:Nat) (s x:V):Local (Ze5 tab t t2 nid s x):=by
 unfold Ze5
 repeat' (first | assumption | exact ZaQ _ _ _ | exact Local.ret _ | exact Local.fail | exact Local.lift _ | exact Local.get _ | exact ZI Zs _ | apply Zs | apply ZH | apply Zaf | apply ZO | apply ZR | apply Z1 | apply ZS | apply ZaI | apply ZaO | apply ZaM | apply ZaJ | apply Zaa | apply Za6 | apply Zbl | apply ZbI | apply Zb6 | refine Local.bind ?_ (fun _=>?_) | refine Local.test _ ?_ | split)
theorem Zc9 (tab:Tab) (t:TypeId) (d s:V):Local (Zj3 tab t d s):=by
 unfold Zj3
 repeat' (first | assumption | exact ZaQ _ _ _ | exact Local.ret _ | exact Local.fail | exact Local.lift _ | exact Local.get _ | exact ZI Zs _ | apply Zs | apply ZH | apply Zaf | apply ZO | apply ZR | apply Z1 | apply ZS | apply ZaI | apply ZaO | apply ZaM | apply ZaJ | apply Zaa | apply Za6 | apply Zbl | apply ZbI | apply Zb6 | apply ZbQ | refine Local.bind ?_ (fun _=>?_) | refine Local.test _ ?_ | split)
theorem Zdj (tab:Tab) (t:TypeId) (d:V):Local (Zh5 tab t d):=by
 unfold Zh5
 repeat' (first | assumption | exact ZaQ _ _ _ | exact Local.ret _ | exact Local.fail | exact Local.lift _ | exact Local.get _ | exact ZI Zs _ | apply Zs | apply ZH | apply Zaf | apply ZO | apply ZR | apply Z1 | apply ZS | apply ZaI | apply ZaO | apply ZaM | apply ZaJ | apply Zaa | apply Za6 | apply Zbl | apply ZbI | apply Zb6 | apply ZbQ | apply Zc9 | refine Local.bind ?_ (fun _=>?_) | refine Local.test _ ?_ | split)
theorem ZcC (tab:Tab) (t:TypeId) (nid:Nat) (n c:V):Local (Zdy tab t nid n c):=by
 unfold Zdy
 repeat' (first | assumption | exact ZaQ _ _ _ | exact Local.ret _ | exact Local.fail | exact Local.lift _ | exact Local.get _ | exact ZI Zs _ | apply Zs | apply ZH | apply Zaf | apply ZO | apply ZR | apply Z1 | apply ZS | apply ZaI | apply ZaO | apply ZaM | apply ZaJ | apply Zaa | apply Za6 | apply Zbl | apply ZbI | apply Zb6 | apply ZbQ | apply Zc9 | apply Zdj | refine Local.bind ?_ (fun _=>?_) | refine Local.test _ ?_ | split)
theorem Zcv (tab:Tab) (ty:Ty):∀(ps:List (Nat×V)) (acc:List V),Local (Ze6 tab ty acc ps)
 | [],_=>.ret _
 | (i,v) :: r,acc=>.bind (ZR tab v.cells) fun _=>.test _ (.bind (Zcv tab ty r _) fun _=>.ret _)
theorem Zl3 (id off:Nat):Local (Zg4 id off):=by
 cases off with
 | zero=>exact ZS .rf (.bp id 0)
 | succ off=>exact .bind (ZS .rf (.bp id 0)) fun _=>.ret _
theorem Ze0 (w q:Bool) (x:V):Local (argV w q x):=by
 unfold argV
 repeat' (first | assumption | exact ZaQ _ _ _ | exact Local.ret _ | exact Local.fail | exact Local.lift _ | exact Local.get _ | exact ZI Zs _ | exact ZI Z1 _ | apply Zs | apply ZH | apply Zaf | apply ZO | apply ZR | apply Z1 | apply ZS | apply Zl3 | apply ZaI | apply ZaO | apply ZaM | apply ZaJ | apply Zaa | apply Za6 | apply Zbl | apply ZbI | apply Zb6 | apply ZbQ | apply Zc9 | apply Zdj | apply ZcC | apply Zcv | refine Local.bind ?_ (fun _=>?_) | refine Local.test _ ?_ | split)
theorem Zeo (w q:Bool):∀xs,Local (Zj4 w q xs)
 | []=>.ret _
 | x :: xs=>.bind (Ze0 w q x) fun _=>.bind (Zeo w q xs) fun _=>.ret _
theorem updH_at {hp hp':ZaG} {u:List (Nat×Option Blk)} {i:Nat} (h:hp' i=hp i):ZW hp' u i=ZW hp u i:=by
 induction u generalizing hp hp' with
 | nil=>exact h
 | cons p u ih=>
  refine ih ?_
  by_cases e:i=p.1
  ·simp[e]
  ·simp[e,h]
theorem Local.on {α:Type} {m:RM α} (u:List (Nat×Option Blk)) (hm:Local m):Local (RM.on u m):=fun h h' a l e k=>hm (ZW h u) (ZW h' u) a l e fun i hi=>updH_at (k i hi)
theorem Zjm (tab:Tab) (id:Nat):Local (Zj8 tab id):=by
 unfold Zj8
 repeat' (first | assumption | exact Local.ret _ | exact Local.fail | exact Local.lift _ | exact Local.get _ | refine Local.bind ?_ (fun _=>?_) | refine Local.test _ ?_ | split)
theorem ZnU (tab:Tab) (nid:Nat) (t:TypeId) (p:V):Local (ZiO tab nid t p):=by
 unfold ZiO
 repeat' (first | assumption | exact Local.ret _ | exact Local.fail | exact Local.lift _ | exact Local.get _ | apply ZaM | apply Zjm | refine Local.on _ ?_ | refine Local.bind ?_ (fun _=>?_) | refine Local.test _ ?_ | split)
theorem ZmG (tab:Tab) (t:TypeId) (p v:V):Local (Zgc tab t p v):=by
 unfold Zgc
 repeat' (first | assumption | exact Local.ret _ | exact Local.fail | exact Local.lift _ | exact Local.get _ | apply ZaJ | apply Zjm | refine Local.on _ ?_ | refine Local.bind ?_ (fun _=>?_) | refine Local.test _ ?_ | split)
theorem ZgU (cfg:Cfg) (nid:Nat) (f:FuncId) (aw:List V):Local (Zj5 cfg nid f aw):=by
 unfold Zj5
 repeat' (first | assumption | exact ZaQ _ _ _ | exact Local.ret _ | exact Local.fail | exact Local.lift _ | exact Local.get _ | exact ZI Zs _ | apply Zs | apply ZH | apply Zaf | apply ZO | apply ZR | apply Z1 | apply ZS | apply ZaI | apply ZaO | apply ZaM | apply ZaJ | apply Zaa | apply Za6 | apply Zbl | apply ZbI | apply Zb6 | apply ZbQ | apply Zc9 | apply Zdj | apply ZcC | apply Zcv | apply Ze0 | apply Zeo | refine Local.bind ?_ (fun _=>?_) | refine Local.test _ ?_ | split)
theorem Zin (tab:Tab) (a b:TypeId) (x:Nat):Local (Zh6 tab a b x):=by
 unfold Zh6
 repeat' (first | assumption | exact Local.ret _ | exact Local.fail | exact Local.lift _ | exact Local.get _ | refine Local.bind ?_ (fun _=>?_) | refine Local.test _ ?_ | split)
theorem Zjn (tab:Tab) (a b:TypeId) (x:V):Local (Zgy tab a b x):=by
 unfold Zgy
 repeat' (first | assumption | exact ZaQ _ _ _ | exact Local.ret _ | exact Local.fail | exact Local.lift _ | exact Local.get _ | exact ZI Zs _ | apply Zs | apply ZH | apply Zaf | apply ZO | apply ZR | apply Z1 | apply ZS | apply ZaI | apply ZaO | apply ZaM | apply ZaJ | apply Zaa | apply Za6 | apply Zbl | apply ZbI | apply Zb6 | apply ZbQ | apply Zc9 | apply Zdj | apply ZcC | apply Zcv | apply Ze0 | apply Zeo | apply ZgU | refine Local.bind ?_ (fun _=>?_) | refine Local.test _ ?_ | split)
theorem Zli (cfg:Cfg) (nid:Nat) (b:Builtin) (ts:List TypeId) (aw:List V):Local (ZeD cfg nid b ts aw):=by
 unfold ZeD
 repeat' (first | assumption | exact ZaQ _ _ _ | exact Local.ret _ | exact Local.fail | exact Local.lift _ | exact Local.get _ | exact ZI Zs _ | apply Zs | apply ZH | apply Zaf | apply ZO | apply ZR | apply Z1 | apply ZS | apply ZaI | apply ZaO | apply ZaM | apply ZaJ | apply Zaa | apply Za6 | apply Zbl | apply ZbI | apply Zb6 | apply ZbQ | apply Zc9 | apply Zdj | apply ZcC | apply Zcv | apply Ze0 | apply Zeo | apply ZgU | apply Zjn | apply Zin | refine Local.bind ?_ (fun _=>?_) | refine Local.test _ ?_ | split)
theorem Zjo (cfg:Cfg) (nid:Nat) (o:Oper) (ev:Operand→V):Local (ZbR cfg nid o ev):=by
 unfold ZbR
 dsimp only
 repeat' (first | assumption | exact ZaQ _ _ _ | exact Local.ret _ | exact Local.fail | exact Local.lift _ | exact Local.get _ | exact ZI Zs _ | apply Zs | apply ZH | apply Zaf | apply ZO | apply ZR | apply Z1 | apply ZS | apply ZaI | apply ZaO | apply ZnU | apply ZmG | apply Zaa | apply Za6 | apply Zbl | apply ZbI | apply Zb6 | apply ZbQ | apply Zc9 | apply Zdj | apply ZcC | apply Zcv | apply Ze0 | apply Zeo | apply ZgU | apply Zjn | apply Zin | apply Zli | refine Local.bind ?_ (fun _=>?_) | refine Local.test _ ?_ | split)
theorem ZhY {ev ev':Operand→V} {ps:Array (Nat×Operand)} (h:∀x∈ps.map (·.2),ev x=ev' x):Zct ev ps=Zct ev' ps:=by
 refine List.map_congr_left fun p hp=>?_
 rw[h p.2 (Array.mem_map.2 ⟨p,by simpa using hp,rfl⟩)]
theorem Zio {ev ev':Operand→V} {xs:Array Operand} (h:∀x∈xs,ev x=ev' x):xs.toList.map ev=xs.toList.map ev':=
 List.map_congr_left fun x hx=>h x (by simpa using hx)
theorem Zjp {ev ev':Operand→V} (cfg:Cfg) (nid:Nat) (o:Oper) (h:∀x∈o.op.operands,ev x=ev' x):ZbR cfg nid o ev=ZbR cfg nid o ev':=by
 obtain⟨dst,op,type,pos,after,guard⟩:=o
 have h':∀x∈op.operands,sft ev x=sft ev' x:=fun x hx=>by unfold sft;rw[h x hx]
 cases op <;> simp only[Op.operands] at h h' <;> simp only[ZbR]
 case build t ps=>rw[ZhY fun x hx=>h' x (by simpa using hx)]
 case buildSlice t n ps=>rw[ZhY fun x hx=>h' x (by simpa using hx)]
 case makeFunc fn first captured=>
  cases fn <;> simp only[]
  rw[Zio (xs:=captured) fun x hx=>h' x (by simp[hx])]
 case call c=>
  have ha:c.args.toList.map (sft ev)=c.args.toList.map (sft ev'):=Zio fun x hx=>h' x (by simp[Call.operands,hx])
  rw[ha]
  cases hc:c.callee with
  | value f=>have hf:sft ev f=sft ev' f:=h' f (by simp[Call.operands,hc]);simp only[hf]
  | _=>rfl
 case slice t x lo hi mx=>cases lo <;> cases hi <;> cases mx <;> simp_all
 all_goals (first | rfl | (simp_all;done))
end
end Go.Eng
namespace Go.Eng
section
variable {P:Program}
theorem MemOk.world {tab:Tab} {E:Entry} {M:Mem} (h:MemOk tab E M) {w':World} (hh:w'.heap=M.w.heap) (h1:w'.os=M.w.os) (h2:w'.tape=M.w.tape) (h3:w'.output=M.w.output):
  MemOk tab E { M with w:=w' }∧MemLe E M { M with w:=w' }:=by
 refine h.move (M':={ M with w:=w' }) (fun _=>False) (fun id _=>⟨rfl,rfl,rfl,rfl⟩) (fun _ _ h=>h) (fun g _=>by simp[hh]) (fun id _ g _=>by simp[hh])
  ⟨h1,h2,h3,by simp[hh],fun g _ _=>by simp[hh]⟩ (fun g _ _=>by simp[hh]) (fun id h=>h.elim) (fun id h=>h.elim) (fun id h=>h.elim) (fun id _ h=>h.elim) (fun id h=>h.elim) (fun id h=>h.elim) (fun _ id h=>h.elim)
def Zhb (ops:Array Oper) (bef:List Nat):Bool:=
 (List.range ops.size).all fun j=>match ops[j]? with
  | none=>true
  | some oj=>oj.after.all (fun e=>!Region.binds .any e||decide (e.on<j))&&(List.range j).all fun i=>match ops[i]? with
   | none=>true
   | some oi=>(bef.getD j 0).testBit i||oi.apart ops oj
theorem Zip {ops:Array Oper} {bef:List Nat} (h:Zhb ops bef=true) {j:Nat} {oj:Oper} (hj:ops[j]? = some oj):
  (∀e∈oj.after,Region.binds .any e=true→e.on<j)∧∀i oi,i<j→ops[i]? = some oi→(bef.getD j 0).testBit i=true∨oi.apart ops oj=true:=by
 unfold Zhb at h
 rw[List.all_eq_true] at h
 have h1:=h j (List.mem_range.2 (Array.getElem?_eq_some_iff.1 hj).1)
 simp only[hj,Bool.and_eq_true] at h1
 obtain⟨h1,h2⟩:=h1
 refine⟨fun e he hb=>?_,fun i oi hij hi=>?_⟩
 ·have:=Array.all_eq_true_iff_forall_mem.1 h1 e he
  simpa [hb] using this
 ·rw[List.all_eq_true] at h2
  have:=h2 i (List.mem_range.2 hij)
  simpa [hi] using this
theorem ZhF {a b:List Nat} (h:ZgA a b=false):∀k∈a,k∉b:=by
 intro k hk hb
 have:ZgA a b=true:=List.any_eq_true.2 ⟨k,hk,by simpa using hb⟩
 rw[h] at this;cases this
theorem ZhG {a b:Rec} (h:Zee a b=false):((∀k∈a.mods,k∉b.log∧k∉b.mods)∧∀k∈a.log,k∉b.mods)∧(a.all=true→b.mods=[])∧(b.all=true→a.mods=[]):=by
 have heeds:∀c:Rec,c.heeds=false→c.mods=[]:=fun c hc=>by
  simp only[Rec.heeds,Bool.or_eq_false_iff,Bool.not_eq_false',List.isEmpty_iff] at hc
  exact hc.2.2
 simp only[Zee,Bool.or_eq_false_iff,Bool.and_eq_false_iff] at h
 obtain⟨⟨⟨h1,h2⟩,h3⟩,h4,h5⟩:=h
 exact⟨⟨fun k hk=>⟨ZhF h1 k hk,ZhF h2 k hk⟩,ZhF h3⟩,fun e=>heeds b (h4.resolve_left (by rw[e];simp)),fun e=>heeds a (h5.resolve_left (by rw[e];simp))⟩
theorem Zhc {bef:List Nat} {i:Nat} {a:Rec}:∀(tr:List (Nat×Rec)),ZgB bef i a tr=true→∀p∈tr,Zee a p.2=false∨(bef.getD p.1 0).testBit i=true
 | [],_,p,hp=>by cases hp
 | (j,b) :: tr,h,p,hp=>by
  simp only[ZgB,Bool.and_eq_true,Bool.or_eq_true,Bool.not_eq_true'] at h
  rcases List.mem_cons.1 hp with rfl | hp
  ·exact h.1.symm
  ·exact Zhc tr h.2 p hp
theorem Ziq:∀(tr:List Rec) (i0 j:Nat) (b:Rec),tr[j]? = some b→b.heeds=true→(i0+j,b)∈Ze7 i0 tr
 | [],_,j,b,hb,_=>by simp at hb
 | r :: tr,i0,j,b,hb,hh=>by
  unfold Ze7
  cases j with
  | zero=>simp at hb;subst hb;rw[hh];simp
  | succ j=>
   have:=Ziq tr (i0+1) j b (by simpa using hb) hh
   rw[show i0+1+j=i0+(j+1) from by omega] at this
   cases r.heeds
   ·exact this
   ·exact List.mem_cons_of_mem _ this
theorem Zjq {a b:Rec} (h:a.heeds=false∨b.heeds=false):Zee a b=false:=by
 have q:∀c:Rec,c.heeds=false→c.all=false∧c.log=[]∧c.mods=[]:=fun c hc=>by simpa [Rec.heeds] using hc
 rcases h with h | h
 ·obtain⟨h1,h2,h3⟩:=q a h
  simp[Zee,ZgA,h,h1,h2,h3]
 ·obtain⟨h1,h2,h3⟩:=q b h
  simp[Zee,ZgA,h,h1,h2,h3]
theorem ZhZ {bef:List Nat}:∀(tr:List Rec) (i0:Nat),Zc6 bef i0 tr=true→∀i j a b,i<j→tr[i]? = some a→tr[j]? = some b→Zee a b=false∨(bef.getD (i0+j) 0).testBit (i0+i)=true
 | [],i0,_,i,j,a,b,_,ha,_=>by simp at ha
 | c :: tr,i0,h,i,j,a,b,hij,ha,hb=>by
  obtain⟨j,rfl⟩:∃k,j=k+1:=⟨j-1,by omega⟩
  have hb:tr[j]? = some b:=by simpa using hb
  cases hbh:b.heeds with
  | false=>exact .inl (Zjq (.inr hbh))
  | true=>
  unfold Zc6 Ze7 at h
  cases i with
  | zero=>
   simp at ha;subst ha
   cases hc:c.heeds with
   | false=>exact .inl (Zjq (.inl hc))
   | true=>
    rw[hc,cond_true,Zj9,Bool.and_eq_true] at h
    have:=Zhc _ h.1 _ (Ziq tr (i0+1) j b hb hbh)
    rwa [show i0+1+j=i0+(j+1) from by omega] at this
  | succ i=>
   have h':Zc6 bef (i0+1) tr=true:=by
    cases hc:c.heeds with
    | false=>rw[hc] at h;exact h
    | true=>rw[hc,cond_true,Zj9,Bool.and_eq_true] at h;exact h.2
   have:=ZhZ tr (i0+1) h' i j a b (by omega) (by simpa using ha) hb
   rwa [show i0+1+j=i0+(j+1) from by omega,show i0+1+i=i0+(i+1) from by omega] at this
theorem ZnV {tr:List Rec} (h:Zd3 tr=true) {a b:Rec} (ha:a∈tr) (hb:b∈tr):Zee a b=false:=by
 simp only[Zd3,List.all_eq_true] at h
 have h1:a.mods=[]∧a.all=false:=by simpa using h a ha
 have h2:b.mods=[]∧b.all=false:=by simpa using h b hb
 simp[Zee,ZgA,h1.1,h2.1,h1.2,h2.2]
theorem Zjr {p q:Nat→Bool} {i:Nat} (hi:p i=true) (hq:q i=false) (hne:∀j,j≠i→q j=p j):∀{l:List Nat},l.Nodup→i∈l→(l.filter q).length+1=(l.filter p).length
 | [],_,h=>by simp at h
 | x :: l,hn,h=>by
  rw[List.nodup_cons] at hn
  by_cases e:x=i
  ·subst e
   have:l.filter q=l.filter p:=List.filter_congr fun y hy=>hne y fun e'=>hn.1 (e'▸hy)
   simp[hi,hq,this]
  ·have ih:=Zjr hi hq hne hn.2 ((List.mem_cons.1 h).resolve_left (Ne.symm e))
   simp only[List.filter_cons,hne x e]
   split
   ·simp only[List.length_cons];omega
   ·exact ih
theorem Zkx (hmix:P.follows .mixedOrders=true) {tab:Tab} {E:Entry} {ρ0:Mem} {ops:Array Oper} {Q:Exit→Act→World→Prop} {F:Fs} {es:List Ent} {rs:List Rec} {M:Mem} {a:Act} {rid:Nat} (hR:RelF tab E ρ0 M F a)
  (hlen:es.length=ops.toList.length) (hrl:rs.length=es.length) (hdst:∀(j:Nat) (o:Oper) (e:Ent),ops[j]? = some o→es[j]? = some e→e.dst=o.dst) (hmods:∀(j:Nat) (e:Ent) (r:Rec),es[j]? = some e→rs[j]? = some r→r.mods=e.mods)
  (hpairs:Zhb ops (Region.before ops).toList=true) (hclash:(Zd3 rs||Zc6 (Region.before ops).toList 0 rs)=true)
  (hstep:∀(i:Nat) (o:Oper) (e:Ent) (r:Rec),ops[i]? = some o→es[i]? = some e→rs[i]? = some r→∀F':Fs,(∀t∈o.looksAt ops,F'.sl t=(Zai F (es.take i)).sl t)→(∀k∈r.log,F'.hp k=(Zai F (es.take i)).hp k)→
   (r.all=true→F'.hp=(Zai F (es.take i)).hp)→(∀k∈e.mods,F'.hp k=(Zai F (es.take i)).hp k)→∀(M':Mem) (a':Act),RelF tab E ρ0 M' F' a'→a'.tmps.size=a.tmps.size→∀K:Act→World→Prop,
   (∀M'' v,RelF tab E ρ0 M'' (ZaN F' e) (a'.put o.dst v)→(a'.put o.dst v).tmps.size=a'.tmps.size→(a'.put o.dst v).defers=a'.defers→K (a'.put o.dst v) M''.w)→wpOp P ops Q i K a' M'.w)
  (hK:∀M' a',RelF tab E ρ0 M' (Zai F es) a'→a'.tmps.size=a.tmps.size→a'.defers=a.defers→Q .normal a' M'.w):(Code.region rid ops true).wp P Q a M.w:=by
 refine wp_region_any hmix ?_
 have hbefD:∀j,(Region.before ops).toList.getD j 0=(Region.before ops).getD j 0:=fun j=>by simp[List.getD,Array.getD_eq_getD_getElem?]
 have hrec:∀(j:Nat) (e:Ent),es[j]? = some e→∃r,rs[j]? = some r∧r.mods=e.mods:=fun j e hj=>by
  have hjl:j<rs.length:=by rw[hrl];exact(List.getElem?_eq_some_iff.1 hj).1
  exact⟨_,List.getElem?_eq_getElem hjl,hmods j e _ hj (List.getElem?_eq_getElem hjl)⟩
 have hpair:∀(i j:Nat) (oi oj:Oper) (ei ej:Rec),i<j→ops[i]? = some oi→ops[j]? = some oj→rs[i]? = some ei→rs[j]? = some ej→
   ((Region.before ops).getD j 0).testBit i=true∨(oi.apart ops oj=true∧Zee ei ej=false):=by
  intro i j oi oj ei ej hij h1 h2 h3 h4
  rcases(Zip hpairs h2).2 i oi hij h1 with h | h
  ·rw[hbefD] at h;exact .inl h
  ·rcases Bool.or_eq_true_iff.1 hclash with hc | hc
   ·exact .inr ⟨h,ZnV hc (List.mem_of_getElem? h3) (List.mem_of_getElem? h4)⟩
   ·rcases ZhZ _ 0 hc i j ei ej hij h3 h4 with hc | hc
    ·exact .inr ⟨h,hc⟩
    ·rw[hbefD] at hc;simp only[Nat.zero_add] at hc;exact .inl hc
 have main:∀(fuel:Nat) (listed:Array Bool) (a':Act) (M':Mem),listed.size=ops.size→
   (∀j o,ops[j]? = some o→listed.getD j false=true→∀e∈o.after,Region.binds .any e=true→listed.getD e.on false=true)→
   RelF tab E ρ0 M' (runS (fun j=>listed.getD j false) 0 F es) a'→a'.tmps.size=a.tmps.size→a'.defers=a.defers→
   ((List.range ops.size).filter fun j=>!listed.getD j true).length≤fuel→wpAny P .any ops Q fuel listed a' M'.w:=by
  have hdone:∀(listed:Array Bool) (a':Act) (M':Mem),listed.size=ops.size→(∀j,j<ops.size→listed.getD j true=true)→
    RelF tab E ρ0 M' (runS (fun j=>listed.getD j false) 0 F es) a'→a'.tmps.size=a.tmps.size→a'.defers=a.defers→Q .normal a' M'.w:=by
   intro listed a' M' hsz hall hR' h1 h2
   refine hK M' a' ?_ h1 h2
   rw[ZmC] at hR'
   ·exact hR'
   ·intro j hj
    have hj':j<ops.size:=by rw[hlen] at hj;simpa using hj
    have:=hall j hj'
    have hj2:j<listed.size:=by omega
    simp only[Nat.zero_add]
    simpa [Array.getD_eq_getD_getElem?,hj2] using this
  have hfull:∀(listed:Array Bool),listed.size=ops.size→Region.ready .any ops listed=[]→∀j,j<ops.size→listed.getD j true=true:=by
   intro listed hsz hr j
   induction j using Nat.strongRecOn with
   | ind j ih=>
    intro hj
    cases hb:listed.getD j true with
    | true=>rfl
    | false=>
     have ho:ops[j]? = some ops[j]:=Array.getElem?_eq_getElem hj
     have:j∈Region.ready .any ops listed:=by
      refine mem_ready.2 ⟨hb,_,ho,fun e he hbd=>?_⟩
      have hlt:=(Zip hpairs ho).1 e he hbd
      have h1:=ih e.on hlt (by omega)
      by_cases hls:e.on<listed.size
      ·simpa [Array.getD_eq_getD_getElem?,hls] using h1
      ·omega
     rw[hr] at this;cases this
  intro fuel
  induction fuel with
  | zero=>
   intro listed a' M' hsz hdown hR' h1 h2 hcnt
   have hall:∀j,j<ops.size→listed.getD j true=true:=by
    intro j hj
    cases hb:listed.getD j true with
    | true=>rfl
    | false=>
     have:j∈(List.range ops.size).filter fun j=>!listed.getD j true:=List.mem_filter.2 ⟨List.mem_range.2 hj,by simp[hb]⟩
     have:=List.length_pos_of_mem this
     omega
   refine⟨?_,hdone listed a' M' hsz hall hR' h1 h2⟩
   unfold Region.ready
   rw[List.filter_eq_nil_iff]
   intro j hj
   simp[hall j (List.mem_range.1 hj)]
  | succ fuel ih=>
   intro listed a' M' hsz hdown hR' h1 h2 hcnt
   refine⟨fun hr=>hdone listed a' M' hsz (hfull listed hsz hr) hR' h1 h2,fun i hi=>?_⟩
   obtain⟨hun,oi,hoi,hafter⟩:=mem_ready.1 hi
   have hilt:i<ops.size:=(Array.getElem?_eq_some_iff.1 hoi).1
   have hSi:listed.getD i false=false:=by
    have hi2:i<listed.size:=by omega
    simpa [Array.getD_eq_getD_getElem?,hi2] using hun
   obtain⟨ei,hei⟩:∃ei,es[i]? = some ei:=by
    have hil:i<es.length:=by rw[hlen];simpa using hilt
    exact⟨_,List.getElem?_eq_getElem hil⟩
   obtain⟨ri,hri,hrm⟩:=hrec i ei hei
   have hop:∀(j:Nat) (e:Ent),es[j]? = some e→∃o,ops[j]? = some o:=fun j e hj=>by
    have:j<ops.size:=by have:=(List.getElem?_eq_some_iff.1 hj).1;rw[hlen] at this;simpa using this
    exact⟨_,Array.getElem?_eq_getElem this⟩
   have hpre:∀j e o r,es[j]? = some e→ops[j]? = some o→rs[j]? = some r→j<i→listed.getD j false=false→o.apart ops oi=true∧Zee r ri=false:=by
    intro j e o r hej hoj hrj hlt hns
    rcases hpair j i o oi r ri hlt hoj hoi hrj hri with h | h
    ·have:=Zjl (ops:=ops) (S:=fun k=>k=i∨listed.getD k false=true) (fun k o' hk hs e' he' hb=>?_) (.inl rfl) h
     ·rcases this with h | h
      ·omega
      ·rw[hns] at h;cases h
     ·rcases hs with rfl | hs
      ·rw[hoi] at hk;cases hk;exact .inr (hafter e' he' hb)
      ·exact .inr (hdown k o' hk hs e' he' hb)
    ·exact h
   have hpost:∀j e o r,es[j]? = some e→ops[j]? = some o→rs[j]? = some r→i≤j→listed.getD j false=true→oi.apart ops o=true∧Zee ri r=false:=by
    intro j e o r hej hoj hrj hge hs
    have hne:i≠j:=fun e'=>by subst e';rw[hSi] at hs;cases hs
    rcases hpair i j oi o ri r (by omega) hoi hoj hri hrj with h | h
    ·have:=Zjl (ops:=ops) (S:=fun k=>listed.getD k false=true) hdown hs h
     rw[hSi] at this;cases this
    ·exact h
   have hslot:∀t∈oi.looksAt ops,(runS (fun j=>listed.getD j false) 0 F es).sl t=(Zai F (es.take i)).sl t:=by
    intro t ht
    refine ZpC (fun j e hej hlt hns=>?_) (fun j e hej hge hs=>?_)
    ·obtain⟨o,hoj⟩:=hop j e hej
     obtain⟨r,hrj,-⟩:=hrec j e hej
     rw[hdst j o e hoj hej]
     exact fun hd'=>(Oper.apart_spec (hpre j e o r hej hoj hrj hlt hns).1).1 t hd' ht
    ·obtain⟨o,hoj⟩:=hop j e hej
     obtain⟨r,hrj,-⟩:=hrec j e hej
     rw[hdst j o e hoj hej]
     exact fun hd'=>(Oper.apart_spec (hpost j e o r hej hoj hrj hge hs).1).2.2 t hd' ht
   have hheap:∀k,(k∈ri.log∨k∈ei.mods∨ri.all=true)→(runS (fun j=>listed.getD j false) 0 F es).hp k=(Zai F (es.take i)).hp k:=by
    intro k hk
    refine ZpD (fun j e hej hlt hns hke=>?_) (fun j e hej hge hs hke=>?_)
    ·obtain⟨o,hoj⟩:=hop j e hej
     obtain⟨r,hrj,hm⟩:=hrec j e hej
     obtain⟨c1,c2,c3⟩:=ZhG (hpre j e o r hej hoj hrj hlt hns).2
     rw[←hm] at hke
     rcases hk with hk | hk | hk
     ·exact(c1.1 k hke).1 hk
     ·rw[←hrm] at hk;exact(c1.1 k hke).2 hk
     ·rw[c3 hk] at hke;cases hke
    ·obtain⟨o,hoj⟩:=hop j e hej
     obtain⟨r,hrj,hm⟩:=hrec j e hej
     obtain⟨c1,c2,c3⟩:=ZhG (hpost j e o r hej hoj hrj hge hs).2
     rw[←hm] at hke
     rcases hk with hk | hk | hk
     ·exact c1.2 k hk hke
     ·rw[←hrm] at hk;exact(c1.1 k hk).2 hke
     ·rw[c2 hk] at hke;cases hke
   refine hstep i oi ei ri hoi hei hri _ hslot (fun k hk=>hheap k (.inl hk)) (fun e=>funext fun k=>hheap k (.inr (.inr e))) (fun k hk=>hheap k (.inr (.inl hk))) M' a' hR' h1 _ fun M'' v hR'' hsz' hdf'=>?_
   refine ih (listed.setIfInBounds i true) _ M'' (by simp[hsz]) (fun j o hj hs e' he' hb=>?_) ?_ (hsz'.trans h1) (hdf'.trans h2) ?_
   ·by_cases hji:j=i
    ·subst hji
     rw[hoi] at hj;cases hj
     exact getD_set_true (hafter e' he' hb)
    ·rw[getD_set_ne false (Ne.symm hji)] at hs
     exact getD_set_true (hdown j o hj hs e' he' hb)
   ·rw[ZmE (S:=fun j=>listed.getD j false) es i 0 F hei (by simpa using hSi) (by
      have hi2:i<listed.size:=by omega
      simp[Array.getD_eq_getD_getElem?,hi2]) (fun j hj=>getD_set_ne false (by simpa using Ne.symm hj)) fun j e hij hej hs=>?_]
    ·exact hR''
    ·obtain⟨o,hoj⟩:=hop j e hej
     obtain⟨r,hrj,hm⟩:=hrec j e hej
     obtain⟨p1,p2⟩:=hpost j e o r hej hoj hrj (by omega) (by simpa using hs)
     refine⟨fun d hd'=>?_,fun k hk hk'=>((ZhG p2).1.1 k (by rw[hrm];exact hk)).2 (by rw[hm];exact hk')⟩
     rw[hdst j o e hoj hej]
     rw[hdst i oi ei hoi hei] at hd'
     exact(Oper.apart_spec p1).2.1 d hd'
   ·have hi2:i<listed.size:=by omega
    have:=Zjr (p:=fun j=>!listed.getD j true) (q:=fun j=>!(listed.setIfInBounds i true).getD j true) (i:=i) (by simp[hun]) (by simp[Array.getD_eq_getD_getElem?,hi2])
     (fun j hj=>by rw[getD_set_ne true (Ne.symm hj)]) (List.nodup_range (n:=ops.size)) (List.mem_range.2 hilt)
    omega
 obtain⟨m1,m2⟩:=hR.mem.world (w':={ M.w with drawn:=M.w.drawn+1 }) rfl rfl rfl rfl
 refine main ops.size (Array.replicate ops.size false) a { M with w:={ M.w with drawn:=M.w.drawn+1 } } (by simp) (fun j o hj hs=>?_) ?_ rfl rfl ?_
 ·simp[Array.getD_eq_getD_getElem?,Array.getElem?_replicate] at hs
  split at hs <;> simp_all
 ·rw[ZlD]
  ·exact⟨m1,hR.le.trans m2,hR.hp,fun t=>m2.rs (hR.slots t)⟩
  ·intro j hj
   simp[Array.getD_eq_getD_getElem?,Array.getElem?_replicate]
   split <;> simp
 ·exact Nat.le_trans (List.length_filter_le _ _) (by simp)
theorem ZnW {cfg:Cfg} (hT:ZB P cfg.tab) (hS:Zbk P cfg.tab cfg.sums) (hmix:P.follows .mixedOrders=true) {E:Entry} {ρ0:Mem} {ops:Array Oper} {Q:Exit→Act→World→Prop} {F:Fs} {nid:Nat} {es:List Ent} {M:Mem} {a:Act} {rid:Nat}
  (he:Ents cfg ops.toList F nid ops.toList es) (hR:RelF cfg.tab E ρ0 M F a) (hf:∀id,nid≤id→F.hp id=none) (hd:∀o∈ops.toList,∀d,o.dst=some d→d<a.tmps.size)
  (hpairs:Zhb ops (Region.before ops).toList=true) (hclash:(Zd3 (es.map Ent.recd)||Zc6 (Region.before ops).toList 0 (es.map Ent.recd))=true)
  (hK:∀M' a',RelF cfg.tab E ρ0 M' (Zai F es) a'→a'.tmps.size=a.tmps.size→a'.defers=a.defers→Q .normal a' M'.w):(Code.region rid ops true).wp P Q a M.w:=by
 obtain⟨hlen,hget⟩:=he.get
 have hent:∀(i:Nat) (o:Oper) (e:Ent),ops[i]? = some o→es[i]? = some e→ZiU cfg ops.toList (Zai F (es.take i)) (ZeZ nid (es.take i)) o e:=fun i o e ho hei=>by
  obtain⟨e',h1,h2⟩:=hget i o (by simpa using ho)
  rw[hei] at h1;cases h1;exact h2
 refine Zkx hmix hR hlen (by simp) (fun j o e ho hej=>(hent j o e ho hej).1) (fun j e r hej hr=>by rw[List.getElem?_map,hej] at hr;cases hr;rfl) hpairs hclash
  (fun i o e r ho hei hr F' hsl hlog _ hmo M' a' hR' hsz K hK'=>?_) hK
 rw[List.getElem?_map,hei] at hr
 cases hr
 obtain⟨e1,e2⟩:=hent i o e ho hei
 have hw:ZbA ops.toList F' o=ZbA ops.toList (Zai F (es.take i)) o:=by
  unfold ZbA
  cases hg:o.guard with
  | none=>rfl
  | some gw=>
   obtain⟨g,want⟩:=gw
   simp only[]
   cases ht:(ops.toList[g]?).bind (·.dst) with
   | none=>rfl
   | some t=>
    simp only[]
    rw[hsl t]
    unfold Oper.looksAt
    rw[hg]
    refine List.mem_append_right _ ?_
    simp only[]
    rw[Array.getElem?_toList] at ht
    simp[ht]
 refine ZmB hT hS hR' ho (nid:=ZeZ nid (es.take i)) ⟨e1,?_⟩ (fun id hid hge=>?_) (fun d hd'=>by rw[hsz];exact hd o (by simpa using Array.mem_of_getElem? ho) d hd') hK'
 ·rcases e2 with⟨q1,q2⟩ | ⟨q1,q2⟩
  ·refine .inl ⟨hw.trans q1,?_⟩
   have hc:ZbR cfg (ZeZ nid (es.take i)) o (ev F'.sl)=ZbR cfg (ZeZ nid (es.take i)) o (ev (Zai F (es.take i)).sl):=
    Zjp _ _ _ fun x hx=>by
     cases x with
     | tmp t=>exact hsl t (List.mem_append_left _ (List.mem_filterMap.2 ⟨.tmp t,by simpa using hx,rfl⟩))
     | _=>rfl
   rw[hc]
   exact Zjo _ _ _ _ _ _ _ _ q2 hlog
  ·exact .inr ⟨hw.trans q1,q2⟩
 ·rw[hmo id hid];exact Zil hf (es.take i) id hge
end
end Go.Eng
namespace Go.Eng
section
variable {P:Program} {tab:Tab}
structure Rel (tab:Tab) (E:Entry) (N:Nat) (ps:List (V×Value)) (M:Mem) (s:St) (a:Act):Prop where
 rel:RelF tab E M M s.F a
 lent:LentL tab M ps s.lent
 fresh:∀id,s.nid≤id→s.heap id=none
 size:a.tmps.size=N
 defers:a.defers=[]
theorem Zda {l r:List Nat} (h:l.Nodup):(ZcX l r).Nodup:=by
 induction r generalizing l with
 | nil=>exact h
 | cons x r ih=>
  simp only[ZcX]
  cases hc:l.contains x with
  | true=>exact ih h
  | false=>
   refine ih ?_
   rw[List.nodup_append]
   refine⟨h,by simp,fun a ha b hb e=>?_⟩
   simp at hb;subst hb;subst e
   simp at hc;exact hc ha
theorem Zky {ids:List Nat} {id k:Nat} (h:Zbx ids id=some k):ids[k]? = some id:=by
 unfold Zbx at h
 rw[List.idxOf?_eq_some_iff] at h
 obtain⟨hk,he,_⟩:=h
 rw[List.getElem?_eq_getElem hk,he]
theorem ZfL:∀(bs:List (Option Blk)) (n k:Nat),(look (ZeE n bs) k:Option (Option Blk))=if n≤k then bs[k-n]? else none
 | [],n,k=>by simp[ZeE,Zgd]
 | b :: bs,n,k=>by
  simp only[ZeE]
  rw[ZF,ZfL bs (n+1) k]
  by_cases h1:k=n
  ·subst h1;simp
  ·by_cases h2:n≤k
   ·have:k-n=(k-(n+1))+1:=by omega
    rw[if_neg h1,if_pos (by omega),if_pos h2,this];simp
   ·rw[if_neg h1,if_neg (by omega),if_neg h2]
noncomputable def Mem.ren (M:Mem) (ids:List Nat):Mem:=
 {w:=M.w
  ρ:=fun k=>ids[k]?.bind M.ρ
  top:=fun k=>match ids[k]? with | some id=>(match ZcA ids (M.hp id) with | some _=>M.top id | none=>[]) | none=>[]
  nest:=fun k=>match ids[k]? with | some id=>(match ZcA ids (M.hp id) with | some _=>M.nest id | none=>[]) | none=>[]
  hp:=look (ZeE 0 (ids.map fun id=>ZcA ids (M.hp id))) }
theorem ZmH {E:Entry} {M:Mem} {ids:List Nat}:∀g,okS E M g→okS E (M.ren ids) g:=by
 rintro g ⟨h1,h2,h3⟩
 refine⟨h1,h2,fun k hk=>?_⟩
 simp only[Mem.ren] at hk
 split at hk
 ·split at hk
  ·exact h3 _ hk
  ·simp at hk
 ·simp at hk
theorem Zlj {E:Entry} {M:Mem} {ids:List Nat} {x:V} {v:Value} (h:M.Rs tab E x v):(M.ren ids).Rs tab E (Ze8 ids x) v:=by
 have hρ:∀id k,Zbx ids id=some k→(M.ren ids).ρ k=M.ρ id:=fun id k hk=>by simp[Mem.ren,Zky hk]
 cases h with
 | tree h=>
  have:=h.keep (w':=(M.ren ids).w) (ok':=okS E (M.ren ids)) ZmH fun _ _=>rfl
  cases h <;> first | exact .tree this | exact .tree (.dead _)
 | sl id T off len sz N a a' cap n h1 h2 h3 h4 h5 h6=>
  simp only[Ze8]
  cases hk:Zbx ids id with
  | none=>exact .tree (.dead _)
  | some k=>exact .sl k T off len sz N a a' cap n (by rw[hρ id k hk];exact h1) h2 h3 h4 h5 h6
 | bp id off g h1=>
  simp only[Ze8]
  cases hk:Zbx ids id with
  | none=>exact .tree (.dead _)
  | some k=>exact .bp k off g (by rw[hρ id k hk];exact h1)
 | rp id idx off T sz N g cap h1 h2=>
  simp only[Ze8]
  cases hk:Zbx ids id with
  | none=>exact .tree (.dead _)
  | some k=>exact .rp k idx off T sz N g cap (by rw[hρ id k hk];exact h1) h2
 | _=>exact .tree (.dead _)
theorem ZgD {E:Entry} {M:Mem} {ids:List Nat} {cs:List V} {vals:List Value} (hl:vals.length=cs.length) (h:∀j,j<cs.length→M.Rs tab E (cs.getD j .dead) (vals.getD j undef)):
  vals.length=(cs.map (Ze8 ids)).length∧∀j,j<(cs.map (Ze8 ids)).length→(M.ren ids).Rs tab E ((cs.map (Ze8 ids)).getD j .dead) (vals.getD j undef):=by
 refine⟨by simpa using hl,fun j hj=>?_⟩
 simp at hj
 have:=Zlj (ids:=ids) (h j hj)
 simpa [List.getD,hj] using this
theorem renV_rs {E:Entry} {M:Mem} {ids:List Nat} {x:V} {v:Value} (h:M.Rs tab E x v):(M.ren ids).Rs tab E (renV ids x) v:=by
 cases x with
 | agg cs=>
  obtain⟨vals,rfl,hl,hj⟩:=h.agg_inv
  obtain⟨h1,h2⟩:=ZgD (ids:=ids) hl hj
  exact .agg _ _ h1 h2
 | tup cs=>
  obtain⟨vals,rfl,hl,hj⟩:=h.tup_inv
  obtain⟨h1,h2⟩:=ZgD (ids:=ids) hl hj
  exact .tup _ _ h1 h2
 | fn f cs=>
  obtain⟨vals,rfl,hl,hj⟩:=h.fn_inv
  obtain⟨h1,h2⟩:=ZgD (ids:=ids) hl hj
  exact .fn _ _ _ h1 h2
 | _=>exact Zlj h
theorem ren_mem {E:Entry} {M:Mem} (h:MemOk tab E M) {ids:List Nat} (hn:ids.Nodup):MemOk tab E (M.ren ids):=by
 have hhp:∀k,(M.ren ids).hp k=ids[k]?.map fun id=>ZcA ids (M.hp id):=fun k=>by
  simp only[Mem.ren]
  rw[ZfL];simp
 have hcase:∀k,((M.ren ids).top k=[]∧(M.ren ids).nest k=[]∧(ids[k]? = none→(M.ren ids).ρ k=none)∧∀id,ids[k]? = some id→ZcA ids (M.hp id)=none)∨
   ∃id,ids[k]? = some id∧(M.ren ids).top k=M.top id∧(M.ren ids).nest k=M.nest id∧(M.ren ids).ρ k=M.ρ id∧ZcA ids (M.hp id)≠none:=fun k=>by
  cases hk:ids[k]? with
  | none=>simp[Mem.ren,hk]
  | some id=>
   cases hr:ZcA ids (M.hp id) with
   | none=>simp[Mem.ren,hk,hr]
   | some b=>exact .inr ⟨id,rfl,by simp[Mem.ren,hk,hr],by simp[Mem.ren,hk,hr],by simp[Mem.ren,hk],by simp[hr]⟩
 refine⟨fun k b hb=>?_,fun k hb=>?_,fun k hb=>?_,fun k=>?_,fun k k' hne g hg hg'=>?_,fun k g hg=>?_,fun k g hg=>?_,h.kept⟩
 ·rw[hhp] at hb
  rcases hcase k with⟨_,_,_,e4⟩ | ⟨id,e,e1,e2,e3,-⟩
  ·cases hk:ids[k]? with
   | none=>simp[hk] at hb
   | some id=>rw[hk] at hb;simp[e4 id hk] at hb
  ·rw[e] at hb
   simp only[Option.map_some,Option.some.injEq] at hb
   rw[e1,e2,e3]
   cases hq:M.hp id with
   | none=>rw[hq] at hb;simp[ZcA] at hb
   | some ob=>
    cases ob with
    | none=>rw[hq] at hb;simp[ZcA] at hb
    | some blk=>
     have hB:=h.blocks id blk hq
     rw[hq] at hb
     cases blk with
     | box T cs=>
      simp only[ZcA,Option.some.injEq] at hb
      subst hb
      obtain⟨g,c,TT,q1,q2,q3,q4,q5,q6⟩:=hB
      obtain⟨r1,r2⟩:=ZgD (ids:=ids) (cs:=cs) (vals:=c.toList) (by simp[q3]) fun j hj=>by rw[Zbj];exact q4 j hj
      exact⟨g,c,TT,q1,q2,by simpa using r1,fun j hj=>by have:=r2 j hj;rw[Zbj] at this;exact this,q5,q6⟩
     | row T own els=>
      simp only[ZcA,Option.some.injEq] at hb
      subst hb
      obtain⟨ty,v,q1,q2,q3,q4⟩:=hB
      exact⟨ty,v,q1,q2,q3.keep ZmH (fun _ _=>rfl) (fun _ _=>rfl),q4⟩
     | drow T els=>
      simp only[ZcA,Option.some.injEq] at hb
      subst hb
      obtain⟨ty,v,n,q1,q2,q3,q4,q5⟩:=hB
      exact⟨ty,v,n,q1,q2,q3.keep ZmH (fun _ _=>rfl) (fun _ _=>rfl),q4,q5⟩
     | hrow T els idx off j=>simp[ZcA] at hb
     | grow T cs=>
      simp only[ZcA,Option.some.injEq] at hb
      subst hb
      obtain⟨ty,v,xs,q1,q2,q3,q4,q5,q6,q7⟩:=hB
      refine⟨ty,v,xs,q1,q2,by rw[List.length_map];exact q3,by rw[List.length_map];exact q4,fun j hj=>?_,q6,q7⟩
      have hj:j<cs.length:=by simpa using hj
      have:=Zlj (ids:=ids) (q5 j hj)
      simpa [List.getD,hj] using this
 ·rcases hcase k with⟨e1,e2,e3,_⟩ | ⟨id,e,_⟩
  ·cases hk:ids[k]? with
   | none=>exact⟨e3 hk,e1,e2⟩
   | some id=>rw[hhp,hk] at hb;simp at hb
  ·rw[hhp,e] at hb;simp at hb
 ·rcases hcase k with⟨e1,e2,_,_⟩ | ⟨id,e,e1,e2,_,e4⟩
  ·exact⟨e1,e2⟩
  ·rw[hhp,e] at hb
   simp only[Option.map_some,Option.some.injEq] at hb
   exact absurd hb e4
 ·rcases hcase k with⟨e1,e2,_⟩ | ⟨id,_,e1,e2,_⟩
  ·rw[e1,e2];simp
  ·rw[e1,e2];exact h.nodup id
 ·rcases hcase k with⟨e1,e2,_⟩ | ⟨id,q1,e1,e2,_⟩
  ·rw[e1,e2] at hg;simp at hg
  ·rcases hcase k' with⟨e1',e2',_⟩ | ⟨id',q1',e1',e2',_⟩
   ·rw[e1',e2'] at hg';simp at hg'
   ·rw[e1,e2] at hg;rw[e1',e2'] at hg'
    refine h.apart id id' (fun e=>hne ?_) g hg hg'
    subst e
    have l1:=(List.getElem?_eq_some_iff.1 q1).1
    exact(List.getElem?_inj l1 hn).1 (q1.trans q1'.symm)
 ·rcases hcase k with⟨e1,e2,_⟩ | ⟨id,_,e1,e2,_⟩
  ·rw[e1,e2] at hg;simp at hg
  ·rw[e1,e2] at hg;exact h.mine id g hg
 ·rcases hcase k with⟨e1,e2,_⟩ | ⟨id,_,e1,e2,_⟩
  ·rw[e1] at hg;simp at hg
  ·rw[e1] at hg;exact h.mineT id g hg
theorem ZpE (keep:List Nat) (f:Nat→V) (t:Nat):(look (keep.map fun t=>(t,f t)) t).getD .dead=if t∈keep then f t else .dead:=by
 induction keep with
 | nil=>simp[Zgd]
 | cons x keep ih=>
  simp only[List.map_cons]
  rw[ZF]
  by_cases e:t=x
  ·subst e;simp
  ·simp[e,ih]
theorem Zdz {l r:List Nat} {x:Nat} (h:x∈l∨x∈r):x∈ZcX l r:=by
 induction r generalizing l with
 | nil=>simpa [ZcX] using h
 | cons y r ih=>
  simp only[ZcX]
  cases hc:l.contains y with
  | true=>
   refine ih ?_
   rcases h with h | h
   ·exact .inl h
   ·rcases List.mem_cons.1 h with rfl | h
    ·exact .inl (by simpa using hc)
    ·exact .inr h
  | false=>
   refine ih ?_
   rcases h with h | h
   ·exact .inl (by simp[h])
   ·rcases List.mem_cons.1 h with rfl | h
    ·exact .inl (by simp)
    ·exact .inr h
theorem ZpF {ids:List Nat} {id:Nat} (h:id∈ids):∃k,Zbx ids id=some k:=by
 unfold Zbx
 cases hq:ids.idxOf? id with
 | some k=>exact⟨k,rfl⟩
 | none=>rw[List.idxOf?_eq_none_iff] at hq;exact absurd h hq
theorem LentL.ren {M:Mem} {ids:List Nat} {ps:List (V×Value)} {is:List Nat} (h:LentL tab M ps is) (hin:∀i∈is,i∈ids):LentL tab (M.ren ids) ps (is.map fun id=>(Zbx ids id).getD 0):=by
 induction h with
 | nil=>exact .nil
 | @cons p id ps is h1 _ ih=>
  simp only[List.map_cons]
  refine .cons ?_ (ih fun i hi=>hin i (by simp[hi]))
  obtain⟨k,hk⟩:=ZpF (hin id (by simp))
  rw[hk,Option.getD_some]
  have hρ:(M.ren ids).ρ k=M.ρ id:=by simp[Mem.ren,Zky hk]
  unfold Zgh at h1 ⊢
  rw[hρ];exact h1
theorem Zl4 (keep:List Nat) (s:St):(Zhn keep s).Nodup∧∀i∈s.lent,i∈Zhn keep s:=by
 unfold Zhn
 dsimp only
 exact⟨Zda (Zda (Zda (Zda List.nodup_nil))),fun i hi=>Zdz (.inl (Zdz (.inl (Zdz (.inl (Zdz (.inr hi)))))))⟩
theorem Zh0 {E:Entry} {N:Nat} {ps:List (V×Value)} {M:Mem} {s:St} {a:Act} (h:Rel tab E N ps M s a) (keep:List Nat) {ids:List Nat} (hn:ids.Nodup) (hin:∀i∈s.lent,i∈ids):∃M',M'.w=M.w∧Rel tab E N ps M' (ZiQ keep s ids) a:=by
 have hhp:M.hp=look s.hp:=h.rel.hp
 refine⟨M.ren ids,rfl,⟨⟨ren_mem h.rel.mem hn, .refl _ _,?_,fun t=>?_⟩,h.lent.ren hin,fun id hid=>?_,h.size,h.defers⟩⟩
 ·simp only[Mem.ren,hhp];rfl
 ·have:(St.F (ZiQ keep s ids)).sl t=if t∈keep then renV ids (s.slot t) else .dead:=
   ZpE keep (fun t=>renV ids (s.slot t)) t
  rw[this]
  split
  ·exact renV_rs (h.rel.slots t)
  ·exact .tree (.dead _)
 ·show look (ZeE 0 _) id=none
  rw[ZfL]
  have hid':ids.length≤id:=hid
  simp[hid']
theorem ZgV {E:Entry} {N:Nat} {ps:List (V×Value)} {M:Mem} {s:St} {a:Act} (h:Rel tab E N ps M s a) (keep:List Nat):∃M',M'.w=M.w∧Rel tab E N ps M' (canon keep s) a:=by
 obtain⟨hn,hin⟩:=Zl4 keep s
 exact Zh0 h keep hn hin
end
end Go.Eng
