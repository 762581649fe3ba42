/- An own evaluator of the program's form, proved sound, and what it says of this law's functions: part 4. -/
import Derived.Test.YtpcbeplajmkgpaaGreatE3
import Derived.Lib.SlBytesConst
import Derived.Lib.Walk
import Derived.WalkKit
set_option linter.unusedVariables false
open Go Go.Eng Go.Proofs
namespace Go.Eng.R
set_option maxHeartbeats 4000000 in
set_option maxRecDepth 1000000 in
theorem cmp84:CmpOk Tryz.prog 84:=by
 intro v1 v2 c w h
 have hcall:(callFunc 158 #[v1,v2]).run Tryz.prog w = .ok (.value (.int .i64 c)) w:=by
  rw[run_callFunc_extern Tryz.func158 (by kernel_rfl) (by kernel_rfl) (by kernel_rfl) (e:=Extern.BytealgCompare.compare) (by kernel_rfl),h]
  rfl
 clear h
 go_enter Tryz.func84,Tryz.ntmps84
 go_wp2_with (simp only[hcall])
 all_goals (go_ret;exact⟨rfl, .refl _ _⟩)
theorem Zhh:(Tryz.prog.info? 143).map (·.size)=some 4:=by kernel_rfl
theorem sz143:∀w,(Go.sizeOf 143).run Tryz.prog w = .ok 4 w:=fun w=>by kernel_rfl
theorem zv143:∀w,(zeroValue 143).run Tryz.prog w = .ok (Value.agg #[.slice none 0 0, .slice none 0 0, .int .i64 0, .int .i64 0]) w:=fun w=>by kernel_rfl
theorem info143:(Tryz.prog.info? 143).map (fun i=>(i.zero,i.size,i.bytes))=some (some (Value.agg #[.slice none 0 0, .slice none 0 0, .int .i64 0, .int .i64 0]),4,64):=by kernel_rfl
set_option maxHeartbeats 4000000 in
set_option maxRecDepth 1000000 in
theorem Zn8 (w:World) (g n cap i h caph:Nat) (cur curh:Array Value) (hg:w.heap[g]? = some (.cells cur 143 (0,0))) (hs:cur.size=cap*4) (hcm:cap≤maxLen) (h1:ZdU (cur.toList.take (n*4)))
  (hh:w.heap[h]? = some (.cells curh 143 (0,0))) (hhs:curh.size=caph*4) (hc1:1≤caph) (hne:h≠g) (h1h:ZdU (curh.toList.take 4)) (hi:i<n) (hroom:n+1≤cap):
  Calls Tryz.prog 230 #[.slice (some ⟨g,0,none⟩) n cap, .int .i64 i, .slice (some ⟨h,0,none⟩) 1 caph] w fun e w'=>e = .returned (.slice (some ⟨g,0,none⟩) (n+1) cap)∧
   ∃cur':Array Value,w'.heap[g]? = some (.cells cur' 143 (0,0))∧cur'.size=cap*4∧cur'.toList.take ((n+1)*4)=(cur.toList.take (n*4)).take (i*4)++curh.toList.take 4++(cur.toList.take (n*4)).drop (i*4)∧KeptBut [g] w w':=by
 have hcmx:cap≤9223372036854775807:=hcm
 have hz2:¬((i:Int)=(n:Int)):=by omega
 have hov:∀lb cb,(callFunc 256 #[.slice (some ⟨h,0,none⟩) 1 caph, .slice (some ⟨g,(i+1)*4,none⟩) lb cb]).run Tryz.prog w = .ok (.value (.bool false)) w:=fun lb cb=>by
  rw[run_callFunc_extern Tryz.func256 (by kernel_rfl) (by kernel_rfl) (by kernel_rfl) (e:=Extern.SlicesOverlaps.overlaps #[38,38] #[4]) (by kernel_rfl),
   Lib.run_overlaps_apart w 38 4 143 Tryz.underlying38 4 sz143 ⟨h,0,none⟩ ⟨g,(i+1)*4,none⟩ 1 caph lb cb hne 143 143 curh.size cur.size (by simp[World.shape?,hh]) (by simp[World.shape?,hg]) (by omega) (by simp[World.frozen?,hh]) (by simp[World.frozen?,hh])]
  rfl
 obtain⟨tl,htl⟩:∃tl,tl=(cur.toList.drop (i*4)).take ((n-i)*4):=⟨_,rfl⟩
 have htll:tl.length=(n-i)*4:=by rw[htl];simp;omega
 have htl1:∀v∈tl,v.oneCell'=true:=fun v hv=>h1 v (by
  rw[htl,show(cur.toList.drop (i*4)).take ((n-i)*4)=(cur.toList.take (n*4)).drop (i*4) from by rw[List.drop_take];congr 1;omega] at hv
  exact List.mem_of_mem_drop hv)
 obtain⟨c1,hc1'⟩:∃c1,c1=(cur.toList.take ((i+1)*4)++tl++cur.toList.drop ((i+1)*4+tl.length)).toArray:=⟨_,rfl⟩
 have hc1s:c1.size=cap*4:=by rw[hc1'];simp;omega
 have hcp1:∀ty dc sc,(Builtin.copy_ #[38,38] ty #[.slice (some ⟨g,(i+1)*4,none⟩) (n+1-(i+1)) dc, .slice (some ⟨g,i*4,none⟩) (n+1-i) sc]).run Tryz.prog w.drew = .ok (goInt (Nat.min (n+1-i) (n+1-(i+1)))) (w.drew.setRow g c1):=fun ty dc sc=>by
  rw[hc1']
  exact ZcZ w.drew 38 38 ty 143 4 g ((i+1)*4) (n+1-(i+1)) dc ⟨g,i*4,none⟩ (n+1-i) sc cur 143 tl Tryz.underlying38 Zhh hg (by rw[htll];simp only[Nat.min_def];split <;> omega) (by rw[htl];exact Zba (w:=w.drew) hg (by omega)) (by rw[htll];omega) htl1
 obtain⟨W1,hW1⟩:∃W1,W1=w.drew.setRow g c1:=⟨_,rfl⟩
 rw[←hW1] at hcp1
 have hg1:W1.heap[g]? = some (.cells c1 143 (0,0)):=by rw[hW1];exact setRow_heap _ g cur _ 143 _ hg
 have hh1:W1.heap[h]? = some (.cells curh 143 (0,0)):=by
  rw[hW1,←hh]
  exact(KeptBut.setRow (w:=w.drew) (F:=[g]) (by simp) c1).block h (by have:=(Array.getElem?_eq_some_iff.1 hh).1;exact this) (by simp[hne])
 obtain⟨c2,hc2⟩:∃c2,c2=(c1.toList.take (i*4)++curh.toList.take 4++c1.toList.drop (i*4+(curh.toList.take 4).length)).toArray:=⟨_,rfl⟩
 have hyl:(curh.toList.take 4).length=4:=by simp;omega
 have hcp2:∀ty dc,(Builtin.copy_ #[38,38] ty #[.slice (some ⟨g,i*4,none⟩) (n+1-i) dc, .slice (some ⟨h,0,none⟩) 1 caph]).run Tryz.prog W1 = .ok (goInt (Nat.min 1 (n+1-i))) (W1.setRow g c2):=fun ty dc=>by
  rw[hc2]
  exact ZcZ W1 38 38 ty 143 4 g (i*4) (n+1-i) dc ⟨h,0,none⟩ 1 caph c1 143 (curh.toList.take 4) Tryz.underlying38 Zhh hg1 (by rw[hyl];simp only[Nat.min_def];split <;> omega) (by have:=Zba (o:=0) (m:=4) hh1 (by omega);simpa using this) (by rw[hyl];omega) h1h
 have hpost:∃cur':Array Value,(W1.setRow g c2).heap[g]? = some (.cells cur' 143 (0,0))∧cur'.size=cap*4∧cur'.toList.take ((n+1)*4)=(cur.toList.take (n*4)).take (i*4)++curh.toList.take 4++(cur.toList.take (n*4)).drop (i*4)∧KeptBut [g] w (W1.setRow g c2):=by
  refine⟨c2,setRow_heap W1 g c1 _ 143 _ hg1,?_,?_,?_⟩
  ·rw[hc2];simp;omega
  ·have q:=ZmT (cur:=cur.toList) (y:=curh.toList.take 4) (tl:=tl) (c1:=c1.toList) (c2:=c2.toList) (a:=i*4) (s:=4) (by simp;omega) hyl (by rw[hc1',show i*4+4=(i+1)*4 from by omega]) (by rw[hc2,hyl])
   rw[show(n+1)*4=i*4+4+tl.length from by rw[htll];omega,q,htl,show(n-i)*4=n*4-i*4 from by omega,ZkP,List.take_take,Nat.min_eq_left (by omega)]
  ·rw[hW1];exact((KeptBut.refl _ w).drew.trans (KeptBut.setRow (by simp) _)).trans (KeptBut.setRow (by simp) _)
 have hw1:IntKind.i64.wrap ((i:Int)+1)=(i:Int)+1:=by rw[IntKind.wrap_i64];omega
 have hw2:IntKind.i64.wrap ((n:Int)+1)=(n:Int)+1:=by rw[IntKind.wrap_i64];omega
 have hb1:¬((cap:Int)<(n:Int)+1):=by omega
 have hb2:¬(cap=i+1):=by omega
 have hb3:(i:Int)≤(n:Int):=by omega
 have hb4:¬(cap=i):=by omega
 have hb5:(i:Int)≤(n:Int)+1:=by omega
 have hb6:(i:Int)+1≤(n:Int)+1:=by omega
 have hb7:(n:Int)+1≤(cap:Int):=by omega
 have hb8:(0:Int)≤(i:Int)+1:=by omega
 have hb9:(0:Int)≤(n:Int)+1:=by omega
 have ht1:((i:Int)+1).toNat=i+1:=by omega
 have ht2:((n:Int)+1).toNat=n+1:=by omega
 clear hc2 hW1 hc1' htl h1 h1h
 go_enter Tryz.func230,Tryz.ntmps230
 go_wp2_with (simp only[hov])
 go_region_law (refine Zfo rfl _ _ 38 38 rfl (.slice (some ⟨g,(i+1)*4,none⟩) (n+1-(i+1)) (cap-(i+1))) (.slice (some ⟨g,i*4,none⟩) (n+1-i) (cap-i)) (by simp[Act.eval,Act.put]) (by simp[Act.eval,Act.put]) (hcp1 _ _ _) ?_)
 go_wp2_with (at_builtin;refine Zew rfl _ _ 38 38 rfl _ _ rfl rfl (hcp2 _ _) ?_)
 go_ret
 exact⟨rfl,hpost⟩
set_option maxHeartbeats 4000000 in
set_option maxRecDepth 1000000 in
theorem Zn9 (w:World) (g n cap i h caph:Nat) (cur curh:Array Value) (hg:w.heap[g]? = some (.cells cur 143 (0,0))) (hs:cur.size=cap*4) (hcm:cap≤maxLen) (h1:ZdU (cur.toList.take (n*4)))
  (hh:w.heap[h]? = some (.cells curh 143 (0,0))) (hhs:curh.size=caph*4) (hc1:1≤caph) (h1h:ZdU (curh.toList.take 4)) (hi:i<n) (hn:n≤cap) (hroom:cap<n+1) (hbig:(n+1)*64≤140737488355328):
  Calls Tryz.prog 230 #[.slice (some ⟨g,0,none⟩) n cap, .int .i64 i, .slice (some ⟨h,0,none⟩) 1 caph] w fun e w'=>∃cap',e = .returned (.slice (some ⟨w.heap.size,0,none⟩) (n+1) cap')∧n+1≤cap'∧cap'≤maxLen∧
   ∃cur':Array Value,w'.heap[w.heap.size]? = some (.cells cur' 143 (0,0))∧cur'.size=cap'*4∧cur'.toList.take ((n+1)*4)=(cur.toList.take (n*4)).take (i*4)++curh.toList.take 4++(cur.toList.take (n*4)).drop (i*4)∧KeptBut [] w w':=by
 have hcmx:cap≤9223372036854775807:=hcm
 have hz2:¬((i:Int)=(n:Int)):=by omega
 have hgw:g<w.heap.size:=(Array.getElem?_eq_some_iff.1 hg).1
 have hhw:h<w.heap.size:=(Array.getElem?_eq_some_iff.1 hh).1
 obtain⟨i0,hi0,hz0,hzs,hzb⟩:=info_parts info143
 have hkk:(n:Int)+1-(i:Int)=((n+1-i:Nat):Int):=by omega
 have hik:i+(n+1-i)=n+1:=by omega
 obtain⟨olds,hol⟩:∃olds,olds=cur.toList.take (i*4):=⟨_,rfl⟩
 have holl:olds.length=i*4:=by rw[hol];simp;omega
 have hold:(Builtin.firstCells i0.size i (.slice (some ⟨g,0,none⟩) i cap)).run Tryz.prog w.drew = .ok olds.toArray w.drew:=by
  rw[hzs]
  refine run_firstCells_some w.drew 4 i ⟨g,0,none⟩ i cap olds holl fun j v hj=>?_
  have:=Zba (o:=0) (m:=i*4) (w:=w.drew) hg (by omega) j v (by rw[List.drop_zero,←hol];exact hj)
  exact this
 obtain⟨G,hG⟩:∃G,G=grownCap w (n+1) cap 143:=⟨_,rfl⟩
 obtain⟨ROW,hROW⟩:∃ROW:Array Value,ROW=olds.toArray++Builtin.zeroCells (Value.agg #[.slice none 0 0, .slice none 0 0, .int .i64 0, .int .i64 0]).cells (n+1-i)++Builtin.zeroCells (Value.agg #[.slice none 0 0, .slice none 0 0, .int .i64 0, .int .i64 0]).cells (G-(n+1)):=⟨_,rfl⟩
 have hrz:∀ty,(Builtin.append_ #[38,3] ty #[.slice (some ⟨g,0,none⟩) i cap, .int .i64 ((n:Int)+1-(i:Int))]).run Tryz.prog w =
   .ok (.slice (some ⟨w.heap.size,0,none⟩) (n+1) G) (w.drew.alloc (.cells ROW 143)):=fun ty=>by
  have h:=Lib.run_append_grow_zeros w 38 3 ty 143 i0 _ .i64 .i64 Tryz.underlying38 Tryz.underlying3 hi0 hz0 (some ⟨g,0,none⟩) i cap olds hold (n+1-i) (by omega) (by omega) (by omega) (by omega) (by rw[hzb];omega) (by rw[hzb,hik];exact growslice_fits hroom hbig)
  rw[hik,←hG,←hROW] at h
  rw[hkk]
  exact h
 have hGn:n+1≤G:=by rw[hG];exact grownCap_ge w _ _ _
 have hGm:G≤maxLen:=by rw[hG];exact grownCap_le_maxLen w (n+1) cap 143 (by unfold maxLen;omega)
 have hG63:G≤9223372036854775807:=hGm
 have hRs:ROW.size=G*4:=by
  rw[hROW];simp only[Array.size_append,List.size_toArray,size_zeroCells,holl]
  rw[show(Value.agg #[.slice none 0 0, .slice none 0 0, .int .i64 0, .int .i64 0]).cells.size=4 from rfl];omega
 obtain⟨W1,hW1⟩:∃W1,W1=w.drew.alloc (.cells ROW 143):=⟨_,rfl⟩
 rw[←hW1] at hrz
 have hN1:W1.heap[w.heap.size]? = some (.cells ROW 143 (0,0)):=by rw[hW1];exact heap_alloc_new w.drew _
 have hk1:KeptBut [] w W1:=by rw[hW1];exact(KeptBut.refl _ w).drew.alloc _
 have hyl:(curh.toList.take 4).length=4:=by simp;omega
 obtain⟨c2,hc2⟩:∃c2,c2=(ROW.toList.take (i*4)++curh.toList.take 4++ROW.toList.drop (i*4+(curh.toList.take 4).length)).toArray:=⟨_,rfl⟩
 have hc2s:c2.size=G*4:=by rw[hc2];simp;omega
 have hcpA:∀(W:World),W.heap=W1.heap→∀ty dc,(Builtin.copy_ #[38,38] ty #[.slice (some ⟨w.heap.size,i*4,none⟩) (n+1-i) dc, .slice (some ⟨h,0,none⟩) 1 caph]).run Tryz.prog W = .ok (goInt (Nat.min 1 (n+1-i))) (W.setRow w.heap.size c2):=fun W hW ty dc=>by
  rw[hc2]
  exact ZcZ W 38 38 ty 143 4 w.heap.size (i*4) (n+1-i) dc ⟨h,0,none⟩ 1 caph ROW 143 (curh.toList.take 4) Tryz.underlying38 Zhh (by rw[hW];exact hN1) (by rw[hyl];simp only[Nat.min_def];split <;> omega)
   (by have:=Zba (w:=W) (o:=0) (m:=4) (cur:=curh) (T:=143) (g:=h) (by rw[hW,hk1.block h hhw (by simp)];exact hh) (by omega);simpa using this) (by rw[hyl];omega) h1h
 obtain⟨tl,htl⟩:∃tl,tl=(cur.toList.drop (i*4)).take ((n-i)*4):=⟨_,rfl⟩
 have htll:tl.length=(n-i)*4:=by rw[htl];simp;omega
 have htl1:∀v∈tl,v.oneCell'=true:=fun v hv=>h1 v (by
  rw[htl,show(cur.toList.drop (i*4)).take ((n-i)*4)=(cur.toList.take (n*4)).drop (i*4) from by rw[List.drop_take];congr 1;omega] at hv
  exact List.mem_of_mem_drop hv)
 obtain⟨W2,hW2⟩:∃W2,W2=W1.setRow w.heap.size c2:=⟨_,rfl⟩
 have hN2:W2.heap[w.heap.size]? = some (.cells c2 143 (0,0)):=by rw[hW2];exact setRow_heap _ _ ROW _ 143 _ hN1
 have hk2:KeptBut [w.heap.size] w W2:=by rw[hW2];exact(hk1.mono (by simp)).trans (KeptBut.setRow (by simp) _)
 obtain⟨c3,hc3⟩:∃c3,c3=(c2.toList.take ((i+1)*4)++tl++c2.toList.drop ((i+1)*4+tl.length)).toArray:=⟨_,rfl⟩
 have hcpB:∀(W:World),W.heap=W2.heap→∀ty dc sc,(Builtin.copy_ #[38,38] ty #[.slice (some ⟨w.heap.size,(i+1)*4,none⟩) (n+1-(i+1)) dc, .slice (some ⟨g,i*4,none⟩) (n-i) sc]).run Tryz.prog W = .ok (goInt (Nat.min (n-i) (n+1-(i+1)))) (W.setRow w.heap.size c3):=fun W hW ty dc sc=>by
  rw[hc3]
  exact ZcZ W 38 38 ty 143 4 w.heap.size ((i+1)*4) (n+1-(i+1)) dc ⟨g,i*4,none⟩ (n-i) sc c2 143 tl Tryz.underlying38 Zhh (by rw[hW];exact hN2) (by rw[htll];simp only[Nat.min_def];split <;> omega)
   (by rw[htl];exact Zba (w:=W) (T:=143) (by rw[hW,hk2.block g hgw (by simp;omega)];exact hg) (by omega)) (by rw[htll];omega) htl1
 have hpost:∀W,W.heap=W2.heap→KeptBut [w.heap.size] w W→∃cur':Array Value,(W.setRow w.heap.size c3).heap[w.heap.size]? = some (.cells cur' 143 (0,0))∧cur'.size=G*4∧cur'.toList.take ((n+1)*4)=(cur.toList.take (n*4)).take (i*4)++curh.toList.take 4++(cur.toList.take (n*4)).drop (i*4)∧KeptBut [] w (W.setRow w.heap.size c3):=by
  intro W hW hk
  refine⟨c3,setRow_heap W _ c2 _ 143 _ (by rw[hW];exact hN2),?_,?_,(hk.trans (KeptBut.setRow (by simp) _)).fresh (by simp)⟩
  ·rw[hc3];simp;omega
  ·have q:=ZlN (row:=ROW.toList) (y:=curh.toList.take 4) (tl:=tl) (c2:=c2.toList) (c3:=c3.toList) (a:=i*4) (s:=4) (by simp;omega) hyl (by rw[hc2,hyl]) (by rw[hc3,show i*4+4=(i+1)*4 from by omega])
   rw[show(n+1)*4=i*4+4+tl.length from by rw[htll];omega,q,htl,show(n-i)*4=n*4-i*4 from by omega,ZkP,List.take_take,Nat.min_eq_left (by omega),hROW]
   congr 2
   simp only[Array.toList_append,List.append_assoc]
   exact(List.take_left' holl).trans hol
 have hw1:IntKind.i64.wrap ((i:Int)+1)=(i:Int)+1:=by rw[IntKind.wrap_i64];omega
 have hw2:IntKind.i64.wrap ((n:Int)+1)=(n:Int)+1:=by rw[IntKind.wrap_i64];omega
 have hw3:IntKind.i64.wrap ((n:Int)+1-(i:Int))=(n:Int)+1-(i:Int):=by rw[IntKind.wrap_i64];omega
 have hz3:(cap:Int)<(n:Int)+1:=by omega
 have hGi:¬(G=i):=by omega
 have hGi1:¬(G=i+1):=by omega
 have hci:¬(cap=i):=by omega
 have hb3:(i:Int)≤(n:Int):=by omega
 have hb5:(i:Int)≤(n:Int)+1:=by omega
 have hb6:(i:Int)+1≤(n:Int)+1:=by omega
 have hb8:(0:Int)≤(i:Int)+1:=by omega
 have ht1:((i:Int)+1).toNat=i+1:=by omega
 have hb9:i≤cap:=by omega
 have hb10:(i:Int)≤(cap:Int):=by omega
 clear hkk hik hold hROW hG hc2 hc3 htl hol h1 h1h
 go_enter Tryz.func230,Tryz.ntmps230
 go_wp2_with (first
  | (at_builtin;refine Lib.wpList_append_run _ rfl _ _ _ _ rfl _ _ rfl rfl _ _ (hrz _) ?_)
  | (at_builtin;refine Zew rfl _ _ 38 38 rfl _ _ rfl rfl (hcpA _ rfl _ _) ?_))
 go_region_law (refine Zfo rfl _ _ 38 38 rfl (.slice (some ⟨w.heap.size,(i+1)*4,none⟩) (n+1-(i+1)) (G-(i+1))) (.slice (some ⟨g,i*4,none⟩) (n-i) (cap-i)) (by simp[Act.eval,Act.put]) (by simp[Act.eval,Act.put]) (hcpB _ (by rw[hW2,hW1];rfl) _ _ _) ?_)
 go_wp2
 go_ret
 exact⟨G,rfl,hGn,hGm,hpost _ (by rw[hW2,hW1];rfl) (by rw[hW2,hW1] at hk2;exact⟨hk2.os,hk2.tape,hk2.output,hk2.size,hk2.block⟩)⟩
set_option maxHeartbeats 4000000 in
set_option maxRecDepth 1000000 in
theorem ZpQ:ZmU Tryz.prog 230 143 4 64:=by
 intro w v v2 n xs ys hr hr2 h1 hbig h63
 rcases hr2.2 with⟨a,rfl,h0⟩ | ⟨h,caph,curh,rfl,hch,hh,hn2,hm2,hs2,hx2⟩
 ·omega
 obtain⟨a,cap,rfl,hnc,hcm⟩:=hr.slice
 have hh:=hh.zero (show 143≠5 by decide)
 have hhw:h<w.heap.size:=(Array.getElem?_eq_some_iff.1 hh).1
 have hyl:ys.length=1*4:=hr2.1
 obtain⟨v',w',hrun,k1,k2,k3⟩:=ZfV (P:=Tryz.prog) (tab:=tab) (w:=w) (t:=38) (t2:=38) (e:=143) (ot:=38) Tryz.underlying38 (base.tab 143 _ rfl) (.inl ⟨143,Tryz.underlying38⟩) (n:=n) hr (Nat.le_refl n) (xv:=.slice (some ⟨h,0,none⟩) 1 caph) (news:=ys) (m:=1) hyl h1
  (fun w'=>by simp[Builtin.lenOf]) (fun w' hw'=>run_firstCells_some w' 4 1 ⟨h,0,none⟩ 1 caph ys hyl fun j v hj=>by
   have:=Zba (o:=0) (m:=1*4) (w:=w') (by rw[hw' h hhw];exact hh) (by omega) j v (by rw[List.drop_zero,hx2];exact hj)
   exact this) h63 hbig
 have hxl:xs.take (n*4)=xs:=List.take_of_length_le (by rw[hr.1];exact Nat.le_refl _)
 have k1':RowIs w' 143 4 (n+1) v' (xs++ys):=by
  have k1:RowIs w' 143 4 (n+1) v' (xs.take (n*4)++ys):=k1
  rw[hxl] at k1;exact k1
 clear k1
 cases a with
 | none=>
  go_enter Tryz.func230,Tryz.ntmps230
  go_wp2_with (at_builtin;refine Lib.wpList_append_run _ rfl _ _ _ _ rfl _ _ rfl rfl _ _ hrun ?_)
  all_goals (go_ret;first | exact⟨v',rfl,k1',k2,k3⟩ | (subst_vars;exact⟨v',rfl,k1',k2,k3⟩))
 | some a=>
  obtain⟨ab,ao,asp⟩:=a
  go_enter Tryz.func230,Tryz.ntmps230
  go_wp2_with (at_builtin;refine Lib.wpList_append_run _ rfl _ _ _ _ rfl _ _ rfl rfl _ _ hrun ?_)
  all_goals (go_ret;first | exact⟨v',rfl,k1',k2,k3⟩ | (subst_vars;exact⟨v',rfl,k1',k2,k3⟩))
theorem ins230:ZhM Tryz.prog 230 143 4 64:=ins_ok
 (fun w g n cap i h caph cur curh h1 h2 h3 h4 h5 h6 h7 h8 h9 h10 h11=>Zn8 w g n cap i h caph cur curh h1 h2 h3 h4 h5 h6 h7 h8 h9 h10 h11)
 (fun w g n cap i h caph cur curh h1 h2 h3 h4 h5 h6 h7 h8 h9 h10 h11 h12=>Zn9 w g n cap i h caph cur curh h1 h2 h3 h4 h5 h6 h7 h8 h9 h10 h11 h12)
 ZpQ
theorem inf147:(Tryz.prog.info? 147).map (·.size)=some 2:=by kernel_rfl
theorem zv147:∀w,(zeroValue 147).run Tryz.prog w = .ok (Value.agg #[.slice none 0 0, .int .i64 0]) w:=fun w=>by kernel_rfl
set_option maxHeartbeats 4000000 in
set_option maxRecDepth 1000000 in
theorem Zo7:Zfd Tryz.prog 231:=by
 intro a n cap i w hin hn hcm
 go_enter Tryz.func231,Tryz.ntmps231
 go_wp2
 all_goals (go_ret;exact⟨rfl, .refl _ _⟩)
set_option maxHeartbeats 4000000 in
set_option maxRecDepth 1000000 in
theorem del231:ZhL Tryz.prog 231 147 2:=by
 intro g n cap i j cur w hg hs hn hcm h1 hij hj
 have hne:¬((i:Int)=(j:Int)):=by omega
 have hb1:(i:Int)≤(j:Int):=by omega
 have hb2:(j:Int)≤(n:Int):=by omega
 have hb3:(i:Int)≤(n:Int):=by omega
 have hb4:i≤cap:=by omega
 have hb5:j≤cap:=by omega
 obtain⟨news,hnews⟩:∃news,news=(cur.toList.drop (j*2)).take ((n-j)*2):=⟨_,rfl⟩
 have hnl:news.length=(n-j)*2:=by rw[hnews];simp;omega
 have hsrc:∀k v,news[k]? = some v→w.cell? ((⟨g,j*2,none⟩:Addr).add k)=some v:=by
  rw[hnews];exact Zba hg (by omega)
 have hone:∀v∈news,v.oneCell'=true:=fun v hv=>h1 v (by
  rw[hnews] at hv
  have:(cur.toList.drop (j*2)).take ((n-j)*2)=(cur.toList.take (n*2)).drop (j*2):=by
   rw[List.drop_take];congr 1;omega
  rw[this] at hv
  exact List.mem_of_mem_drop hv)
 obtain⟨c1,hc1⟩:∃c1,c1=(cur.toList.take (i*2)++news++cur.toList.drop (i*2+news.length)).toArray:=⟨_,rfl⟩
 have hap:∀(W:World) (a:Addr) (m sc:Nat) (ty:TypeId),W.heap[g]? = w.heap[g]?→m=n-j→(m=0∨a=⟨g,j*2,none⟩)→
   (Builtin.append_ #[39,39] ty #[.slice (some ⟨g,0,none⟩) i cap, .slice (some a) m sc]).run Tryz.prog W = .ok (.slice (some ⟨g,0,none⟩) (i+m) cap) (W.setRow g c1):=by
  intro W a m sc ty hW hm ha
  rw[hm] at ha ⊢
  have hst:=run_storeCells_at Tryz.prog g (i*2) 147 news 0 cur W (hW.trans hg) (by rw[hnl];omega) hone
  simp only[Nat.add_zero] at hst
  rw[←hc1] at hst
  have hfc:(Builtin.firstCells 2 (n-j) (.slice (some a) (n-j) sc)).run Tryz.prog W = .ok news.toArray W:=by
   refine run_firstCells_some (P:=Tryz.prog) W 2 (n-j) a (n-j) sc news hnl fun k v hk=>?_
   rcases ha with h | rfl
   ·have:=(List.getElem?_eq_some_iff.1 hk).1
    rw[hnl] at this;omega
   ·have:=hsrc k v hk
    rw[←this]
    simp[World.cell?,hW,Addr.add_none]
  have hr:i+(n-j)≤cap:=by omega
  cases hq:Tryz.prog.info? 147 with
  | none=>have:=inf147;rw[hq] at this;simp at this
  | some i0=>
   have hi:i0.size=2:=by have:=inf147;rw[hq] at this;simpa using this
   simp[Builtin.append_,run_underlying Tryz.underlying39,sizeOf,typeInfo,hq,hi,Builtin.lenOf,hr,hfc,Addr.add_none,hst]
 have hc1s:c1.size=cap*2:=by rw[hc1];simp;omega
 have hc1t:c1.toList.take ((i+(n-j))*2)=(cur.toList.take (n*2)).take (i*2)++(cur.toList.take (n*2)).drop (j*2):=by
  rw[hc1]
  simp only[List.append_assoc]
  rw[←List.append_assoc,show(i+(n-j))*2=(cur.toList.take (i*2)++news).length from by simp[hnl];omega,List.take_left,hnews,List.take_take,Nat.min_eq_left (by omega),List.drop_take]
  congr 2
  omega
 have hsub:n-(j-i)=i+(n-j):=by omega
 have hz:(Value.agg #[.slice none 0 0, .int .i64 0]).cells.size=2:=rfl
 have hz1:∀v∈(Value.agg #[.slice none 0 0, .int .i64 0]).cells,v.oneCell'=true:=by decide
 rw[hsub]
 have hcn:¬(cap=i+(n-j)):=by omega
 have hlt:((i+(n-j):Nat):Int)≤(n:Int):=by omega
 have hfin:∀(W1:World) (d:Array Value),W1.heap[g]? = some (.cells d 147 (0,0))→d.size=cap*2→d.toList.take ((i+(n-j))*2)=(cur.toList.take (n*2)).take (i*2)++(cur.toList.take (n*2)).drop (j*2)→KeptBut [g] w W1→
   ∃W2,(∀sc,(Builtin.clear_ #[39] 0 #[.slice (some ⟨g,(i+(n-j))*2,none⟩) (n-(i+(n-j))) sc]).run Tryz.prog W1 = .ok (.tuple #[]) W2)∧
    ∃cur':Array Value,W2.heap[g]? = some (.cells cur' 147 (0,0))∧cur'.size=cap*2∧cur'.toList.take ((i+(n-j))*2)=(cur.toList.take (n*2)).take (i*2)++(cur.toList.take (n*2)).drop (j*2)∧KeptBut [g] w W2:=by
  intro W1 d e1 e2 e3 e4
  obtain⟨tl,t1,t2⟩:=Zfn (P:=Tryz.prog) W1 39 147 0 _ 2 Tryz.underlying39 zv147 hz hz1 (by omega) g ((i+(n-j))*2) (n-(i+(n-j))) (by omega) d 147 e1 (by omega)
  refine⟨W1.setRow g (d.toList.take ((i+(n-j))*2)++tl++d.toList.drop ((i+(n-j))*2+tl.length)).toArray,t2,(d.toList.take ((i+(n-j))*2)++tl++d.toList.drop ((i+(n-j))*2+tl.length)).toArray,setRow_heap W1 g d _ 147 _ e1,?_,?_,e4.trans (KeptBut.setRow (by simp) _)⟩
  ·simp;omega
  ·rw[←e3,List.append_assoc]
   simp only
   rw[show(i+(n-j))*2=(d.toList.take ((i+(n-j))*2)).length from by simp;omega]
   simp
 clear hc1 hnews hz hz1 hnl hsrc hone h1
 by_cases hjn:j=n
 ·have hk:cur.toList.take ((i+(n-j))*2)=(cur.toList.take (n*2)).take (i*2)++(cur.toList.take (n*2)).drop (j*2):=by
   subst hjn
   rw[Nat.sub_self,Nat.add_zero,List.take_take,Nat.min_eq_left (by omega),List.drop_of_length_le (by simp;omega),List.append_nil]
  obtain⟨W2,hcl,hpost⟩:=hfin w.drew cur hg hs hk (KeptBut.refl _ w).drew
  have e0:i+(n-j)=i:=by omega
  rw[e0] at hcl hpost hcn ⊢
  clear hfin hc1t hap hk hsub hlt e0
  subst hjn
  by_cases hcj:cap=j
  ·subst hcj
   go_enter Tryz.func231,Tryz.ntmps231
   go_wp2
   go_region
   go_wp2_with (at_builtin;refine ZaE rfl _ 39 rfl _ rfl (hcl _) ?_)
   go_ret
   exact⟨rfl,hpost⟩
  ·go_enter Tryz.func231,Tryz.ntmps231
   go_wp2
   go_region
   go_wp2_with (at_builtin;refine ZaE rfl _ 39 rfl _ rfl (hcl _) ?_)
   go_ret
   exact⟨rfl,hpost⟩
 ·have hcj:¬(cap=j):=by omega
  obtain⟨W2,hcl,hpost⟩:=hfin (w.drew.setRow g c1) c1 (setRow_heap _ g cur _ 147 _ hg) hc1s hc1t ((KeptBut.refl _ w).drew.trans (KeptBut.setRow (by simp) _))
  clear hfin hc1t
  go_enter Tryz.func231,Tryz.ntmps231
  go_wp2
  go_region_law (refine Zex rfl _ _ 39 39 rfl _ _ (by simp[Act.eval,Act.put]) (by simp[Act.eval,Act.put]) (hap w.drew ⟨g,j*2,none⟩ (n-j) (cap-j) 39 rfl rfl (Or.inr rfl)) ?_)
  go_wp2_with (at_builtin;refine ZaE rfl _ 39 rfl _ rfl (hcl _) ?_)
  go_ret
  exact⟨rfl,hpost⟩
set_option maxHeartbeats 4000000 in
set_option maxRecDepth 1000000 in
theorem ZkV:Zfd Tryz.prog 232:=by
 intro a n cap i w hin hn hcm
 go_enter Tryz.func232,Tryz.ntmps232
 go_wp2
 all_goals (go_ret;exact⟨rfl, .refl _ _⟩)
set_option maxHeartbeats 4000000 in
set_option maxRecDepth 1000000 in
theorem del232:ZhL Tryz.prog 232 143 4:=by
 intro g n cap i j cur w hg hs hn hcm h1 hij hj
 have hne:¬((i:Int)=(j:Int)):=by omega
 have hb1:(i:Int)≤(j:Int):=by omega
 have hb2:(j:Int)≤(n:Int):=by omega
 have hb3:(i:Int)≤(n:Int):=by omega
 have hb4:i≤cap:=by omega
 have hb5:j≤cap:=by omega
 obtain⟨news,hnews⟩:∃news,news=(cur.toList.drop (j*4)).take ((n-j)*4):=⟨_,rfl⟩
 have hnl:news.length=(n-j)*4:=by rw[hnews];simp;omega
 have hsrc:∀k v,news[k]? = some v→w.cell? ((⟨g,j*4,none⟩:Addr).add k)=some v:=by
  rw[hnews];exact Zba hg (by omega)
 have hone:∀v∈news,v.oneCell'=true:=fun v hv=>h1 v (by
  rw[hnews] at hv
  have:(cur.toList.drop (j*4)).take ((n-j)*4)=(cur.toList.take (n*4)).drop (j*4):=by
   rw[List.drop_take];congr 1;omega
  rw[this] at hv
  exact List.mem_of_mem_drop hv)
 obtain⟨c1,hc1⟩:∃c1,c1=(cur.toList.take (i*4)++news++cur.toList.drop (i*4+news.length)).toArray:=⟨_,rfl⟩
 have hap:∀(W:World) (a:Addr) (m sc:Nat) (ty:TypeId),W.heap[g]? = w.heap[g]?→m=n-j→(m=0∨a=⟨g,j*4,none⟩)→
   (Builtin.append_ #[38,38] ty #[.slice (some ⟨g,0,none⟩) i cap, .slice (some a) m sc]).run Tryz.prog W = .ok (.slice (some ⟨g,0,none⟩) (i+m) cap) (W.setRow g c1):=by
  intro W a m sc ty hW hm ha
  rw[hm] at ha ⊢
  have hst:=run_storeCells_at Tryz.prog g (i*4) 143 news 0 cur W (hW.trans hg) (by rw[hnl];omega) hone
  simp only[Nat.add_zero] at hst
  rw[←hc1] at hst
  have hfc:(Builtin.firstCells 4 (n-j) (.slice (some a) (n-j) sc)).run Tryz.prog W = .ok news.toArray W:=by
   refine run_firstCells_some (P:=Tryz.prog) W 4 (n-j) a (n-j) sc news hnl fun k v hk=>?_
   rcases ha with h | rfl
   ·have:=(List.getElem?_eq_some_iff.1 hk).1
    rw[hnl] at this;omega
   ·have:=hsrc k v hk
    rw[←this]
    simp[World.cell?,hW,Addr.add_none]
  have hr:i+(n-j)≤cap:=by omega
  cases hq:Tryz.prog.info? 143 with
  | none=>have:=Zhh;rw[hq] at this;simp at this
  | some i0=>
   have hi:i0.size=4:=by have:=Zhh;rw[hq] at this;simpa using this
   simp[Builtin.append_,run_underlying Tryz.underlying38,sizeOf,typeInfo,hq,hi,Builtin.lenOf,hr,hfc,Addr.add_none,hst]
 have hc1s:c1.size=cap*4:=by rw[hc1];simp;omega
 have hc1t:c1.toList.take ((i+(n-j))*4)=(cur.toList.take (n*4)).take (i*4)++(cur.toList.take (n*4)).drop (j*4):=by
  rw[hc1]
  simp only[List.append_assoc]
  rw[←List.append_assoc,show(i+(n-j))*4=(cur.toList.take (i*4)++news).length from by simp[hnl];omega,List.take_left,hnews,List.take_take,Nat.min_eq_left (by omega),List.drop_take]
  congr 2
  omega
 have hsub:n-(j-i)=i+(n-j):=by omega
 have hz:(Value.agg #[.slice none 0 0, .slice none 0 0, .int .i64 0, .int .i64 0]).cells.size=4:=rfl
 have hz1:∀v∈(Value.agg #[.slice none 0 0, .slice none 0 0, .int .i64 0, .int .i64 0]).cells,v.oneCell'=true:=by decide
 rw[hsub]
 have hcn:¬(cap=i+(n-j)):=by omega
 have hlt:((i+(n-j):Nat):Int)≤(n:Int):=by omega
 have hfin:∀(W1:World) (d:Array Value),W1.heap[g]? = some (.cells d 143 (0,0))→d.size=cap*4→d.toList.take ((i+(n-j))*4)=(cur.toList.take (n*4)).take (i*4)++(cur.toList.take (n*4)).drop (j*4)→KeptBut [g] w W1→
   ∃W2,(∀sc,(Builtin.clear_ #[38] 0 #[.slice (some ⟨g,(i+(n-j))*4,none⟩) (n-(i+(n-j))) sc]).run Tryz.prog W1 = .ok (.tuple #[]) W2)∧
    ∃cur':Array Value,W2.heap[g]? = some (.cells cur' 143 (0,0))∧cur'.size=cap*4∧cur'.toList.take ((i+(n-j))*4)=(cur.toList.take (n*4)).take (i*4)++(cur.toList.take (n*4)).drop (j*4)∧KeptBut [g] w W2:=by
  intro W1 d e1 e2 e3 e4
  obtain⟨tl,t1,t2⟩:=Zfn (P:=Tryz.prog) W1 38 143 0 _ 4 Tryz.underlying38 zv143 hz hz1 (by omega) g ((i+(n-j))*4) (n-(i+(n-j))) (by omega) d 143 e1 (by omega)
  refine⟨W1.setRow g (d.toList.take ((i+(n-j))*4)++tl++d.toList.drop ((i+(n-j))*4+tl.length)).toArray,t2,(d.toList.take ((i+(n-j))*4)++tl++d.toList.drop ((i+(n-j))*4+tl.length)).toArray,setRow_heap W1 g d _ 143 _ e1,?_,?_,e4.trans (KeptBut.setRow (by simp) _)⟩
  ·simp;omega
  ·rw[←e3,List.append_assoc]
   simp only
   rw[show(i+(n-j))*4=(d.toList.take ((i+(n-j))*4)).length from by simp;omega]
   simp
 clear hc1 hnews hz hz1 hnl hsrc hone h1
 by_cases hjn:j=n
 ·have hk:cur.toList.take ((i+(n-j))*4)=(cur.toList.take (n*4)).take (i*4)++(cur.toList.take (n*4)).drop (j*4):=by
   subst hjn
   rw[Nat.sub_self,Nat.add_zero,List.take_take,Nat.min_eq_left (by omega),List.drop_of_length_le (by simp;omega),List.append_nil]
  obtain⟨W2,hcl,hpost⟩:=hfin w.drew cur hg hs hk (KeptBut.refl _ w).drew
  have e0:i+(n-j)=i:=by omega
  rw[e0] at hcl hpost hcn ⊢
  clear hfin hc1t hap hk hsub hlt e0
  subst hjn
  by_cases hcj:cap=j
  ·subst hcj
   go_enter Tryz.func232,Tryz.ntmps232
   go_wp2
   go_region
   go_wp2_with (at_builtin;refine ZaE rfl _ 38 rfl _ rfl (hcl _) ?_)
   go_ret
   exact⟨rfl,hpost⟩
  ·go_enter Tryz.func232,Tryz.ntmps232
   go_wp2
   go_region
   go_wp2_with (at_builtin;refine ZaE rfl _ 38 rfl _ rfl (hcl _) ?_)
   go_ret
   exact⟨rfl,hpost⟩
 ·have hcj:¬(cap=j):=by omega
  obtain⟨W2,hcl,hpost⟩:=hfin (w.drew.setRow g c1) c1 (setRow_heap _ g cur _ 143 _ hg) hc1s hc1t ((KeptBut.refl _ w).drew.trans (KeptBut.setRow (by simp) _))
  clear hfin hc1t
  go_enter Tryz.func232,Tryz.ntmps232
  go_wp2
  go_region_law (refine Zex rfl _ _ 38 38 rfl _ _ (by simp[Act.eval,Act.put]) (by simp[Act.eval,Act.put]) (hap w.drew ⟨g,j*4,none⟩ (n-j) (cap-j) 38 rfl rfl (Or.inr rfl)) ?_)
  go_wp2_with (at_builtin;refine ZaE rfl _ 38 rfl _ rfl (hcl _) ?_)
  go_ret
  exact⟨rfl,hpost⟩
theorem inf152:(Tryz.prog.info? 152).map (·.size)=some 2:=by kernel_rfl
theorem zv152:∀w,(zeroValue 152).run Tryz.prog w = .ok (Value.agg #[.int .i64 0, .bool false]) w:=fun w=>by kernel_rfl
set_option maxHeartbeats 4000000 in
set_option maxRecDepth 1000000 in
theorem Zo8:Zfd Tryz.prog 233:=by
 intro a n cap i w hin hn hcm
 go_enter Tryz.func233,Tryz.ntmps233
 go_wp2
 all_goals (go_ret;exact⟨rfl, .refl _ _⟩)
set_option maxHeartbeats 4000000 in
set_option maxRecDepth 1000000 in
theorem del233:ZhL Tryz.prog 233 152 2:=by
 intro g n cap i j cur w hg hs hn hcm h1 hij hj
 have hne:¬((i:Int)=(j:Int)):=by omega
 have hb1:(i:Int)≤(j:Int):=by omega
 have hb2:(j:Int)≤(n:Int):=by omega
 have hb3:(i:Int)≤(n:Int):=by omega
 have hb4:i≤cap:=by omega
 have hb5:j≤cap:=by omega
 obtain⟨news,hnews⟩:∃news,news=(cur.toList.drop (j*2)).take ((n-j)*2):=⟨_,rfl⟩
 have hnl:news.length=(n-j)*2:=by rw[hnews];simp;omega
 have hsrc:∀k v,news[k]? = some v→w.cell? ((⟨g,j*2,none⟩:Addr).add k)=some v:=by
  rw[hnews];exact Zba hg (by omega)
 have hone:∀v∈news,v.oneCell'=true:=fun v hv=>h1 v (by
  rw[hnews] at hv
  have:(cur.toList.drop (j*2)).take ((n-j)*2)=(cur.toList.take (n*2)).drop (j*2):=by
   rw[List.drop_take];congr 1;omega
  rw[this] at hv
  exact List.mem_of_mem_drop hv)
 obtain⟨c1,hc1⟩:∃c1,c1=(cur.toList.take (i*2)++news++cur.toList.drop (i*2+news.length)).toArray:=⟨_,rfl⟩
 have hap:∀(W:World) (a:Addr) (m sc:Nat) (ty:TypeId),W.heap[g]? = w.heap[g]?→m=n-j→(m=0∨a=⟨g,j*2,none⟩)→
   (Builtin.append_ #[40,40] ty #[.slice (some ⟨g,0,none⟩) i cap, .slice (some a) m sc]).run Tryz.prog W = .ok (.slice (some ⟨g,0,none⟩) (i+m) cap) (W.setRow g c1):=by
  intro W a m sc ty hW hm ha
  rw[hm] at ha ⊢
  have hst:=run_storeCells_at Tryz.prog g (i*2) 152 news 0 cur W (hW.trans hg) (by rw[hnl];omega) hone
  simp only[Nat.add_zero] at hst
  rw[←hc1] at hst
  have hfc:(Builtin.firstCells 2 (n-j) (.slice (some a) (n-j) sc)).run Tryz.prog W = .ok news.toArray W:=by
   refine run_firstCells_some (P:=Tryz.prog) W 2 (n-j) a (n-j) sc news hnl fun k v hk=>?_
   rcases ha with h | rfl
   ·have:=(List.getElem?_eq_some_iff.1 hk).1
    rw[hnl] at this;omega
   ·have:=hsrc k v hk
    rw[←this]
    simp[World.cell?,hW,Addr.add_none]
  have hr:i+(n-j)≤cap:=by omega
  cases hq:Tryz.prog.info? 152 with
  | none=>have:=inf152;rw[hq] at this;simp at this
  | some i0=>
   have hi:i0.size=2:=by have:=inf152;rw[hq] at this;simpa using this
   simp[Builtin.append_,run_underlying Tryz.underlying40,sizeOf,typeInfo,hq,hi,Builtin.lenOf,hr,hfc,Addr.add_none,hst]
 have hc1s:c1.size=cap*2:=by rw[hc1];simp;omega
 have hc1t:c1.toList.take ((i+(n-j))*2)=(cur.toList.take (n*2)).take (i*2)++(cur.toList.take (n*2)).drop (j*2):=by
  rw[hc1]
  simp only[List.append_assoc]
  rw[←List.append_assoc,show(i+(n-j))*2=(cur.toList.take (i*2)++news).length from by simp[hnl];omega,List.take_left,hnews,List.take_take,Nat.min_eq_left (by omega),List.drop_take]
  congr 2
  omega
 have hsub:n-(j-i)=i+(n-j):=by omega
 have hz:(Value.agg #[.int .i64 0, .bool false]).cells.size=2:=rfl
 have hz1:∀v∈(Value.agg #[.int .i64 0, .bool false]).cells,v.oneCell'=true:=by decide
 rw[hsub]
 have hcn:¬(cap=i+(n-j)):=by omega
 have hlt:((i+(n-j):Nat):Int)≤(n:Int):=by omega
 have hfin:∀(W1:World) (d:Array Value),W1.heap[g]? = some (.cells d 152 (0,0))→d.size=cap*2→d.toList.take ((i+(n-j))*2)=(cur.toList.take (n*2)).take (i*2)++(cur.toList.take (n*2)).drop (j*2)→KeptBut [g] w W1→
   ∃W2,(∀sc,(Builtin.clear_ #[40] 0 #[.slice (some ⟨g,(i+(n-j))*2,none⟩) (n-(i+(n-j))) sc]).run Tryz.prog W1 = .ok (.tuple #[]) W2)∧
    ∃cur':Array Value,W2.heap[g]? = some (.cells cur' 152 (0,0))∧cur'.size=cap*2∧cur'.toList.take ((i+(n-j))*2)=(cur.toList.take (n*2)).take (i*2)++(cur.toList.take (n*2)).drop (j*2)∧KeptBut [g] w W2:=by
  intro W1 d e1 e2 e3 e4
  obtain⟨tl,t1,t2⟩:=Zfn (P:=Tryz.prog) W1 40 152 0 _ 2 Tryz.underlying40 zv152 hz hz1 (by omega) g ((i+(n-j))*2) (n-(i+(n-j))) (by omega) d 152 e1 (by omega)
  refine⟨W1.setRow g (d.toList.take ((i+(n-j))*2)++tl++d.toList.drop ((i+(n-j))*2+tl.length)).toArray,t2,(d.toList.take ((i+(n-j))*2)++tl++d.toList.drop ((i+(n-j))*2+tl.length)).toArray,setRow_heap W1 g d _ 152 _ e1,?_,?_,e4.trans (KeptBut.setRow (by simp) _)⟩
  ·simp;omega
  ·rw[←e3,List.append_assoc]
   simp only
   rw[show(i+(n-j))*2=(d.toList.take ((i+(n-j))*2)).length from by simp;omega]
   simp
 clear hc1 hnews hz hz1 hnl hsrc hone h1
 by_cases hjn:j=n
 ·have hk:cur.toList.take ((i+(n-j))*2)=(cur.toList.take (n*2)).take (i*2)++(cur.toList.take (n*2)).drop (j*2):=by
   subst hjn
   rw[Nat.sub_self,Nat.add_zero,List.take_take,Nat.min_eq_left (by omega),List.drop_of_length_le (by simp;omega),List.append_nil]
  obtain⟨W2,hcl,hpost⟩:=hfin w.drew cur hg hs hk (KeptBut.refl _ w).drew
  have e0:i+(n-j)=i:=by omega
  rw[e0] at hcl hpost hcn ⊢
  clear hfin hc1t hap hk hsub hlt e0
  subst hjn
  by_cases hcj:cap=j
  ·subst hcj
   go_enter Tryz.func233,Tryz.ntmps233
   go_wp2
   go_region
   go_wp2_with (at_builtin;refine ZaE rfl _ 40 rfl _ rfl (hcl _) ?_)
   go_ret
   exact⟨rfl,hpost⟩
  ·go_enter Tryz.func233,Tryz.ntmps233
   go_wp2
   go_region
   go_wp2_with (at_builtin;refine ZaE rfl _ 40 rfl _ rfl (hcl _) ?_)
   go_ret
   exact⟨rfl,hpost⟩
 ·have hcj:¬(cap=j):=by omega
  obtain⟨W2,hcl,hpost⟩:=hfin (w.drew.setRow g c1) c1 (setRow_heap _ g cur _ 152 _ hg) hc1s hc1t ((KeptBut.refl _ w).drew.trans (KeptBut.setRow (by simp) _))
  clear hfin hc1t
  go_enter Tryz.func233,Tryz.ntmps233
  go_wp2
  go_region_law (refine Zex rfl _ _ 40 40 rfl _ _ (by simp[Act.eval,Act.put]) (by simp[Act.eval,Act.put]) (hap w.drew ⟨g,j*2,none⟩ (n-j) (cap-j) 40 rfl rfl (Or.inr rfl)) ?_)
  go_wp2_with (at_builtin;refine ZaE rfl _ 40 rfl _ rfl (hcl _) ?_)
  go_ret
  exact⟨rfl,hpost⟩
theorem ZkW:(Tryz.prog.info? 154).map (·.size)=some 4:=by kernel_rfl
theorem sz154:∀w,(Go.sizeOf 154).run Tryz.prog w = .ok 4 w:=fun w=>by kernel_rfl
theorem info154:(Tryz.prog.info? 154).map (fun i=>(i.zero,i.size,i.bytes))=some (some (Value.agg #[.int .i64 0, .int .i64 0, .int .i64 0, .int .i64 0]),4,32):=by kernel_rfl
set_option maxHeartbeats 4000000 in
set_option maxRecDepth 1000000 in
theorem Zoa (w:World) (g n cap i h caph:Nat) (cur curh:Array Value) (hg:w.heap[g]? = some (.cells cur 154 (0,0))) (hs:cur.size=cap*4) (hcm:cap≤maxLen) (h1:ZdU (cur.toList.take (n*4)))
  (hh:w.heap[h]? = some (.cells curh 154 (0,0))) (hhs:curh.size=caph*4) (hc1:1≤caph) (hne:h≠g) (h1h:ZdU (curh.toList.take 4)) (hi:i<n) (hroom:n+1≤cap):
  Calls Tryz.prog 153 #[.slice (some ⟨g,0,none⟩) n cap, .int .i64 i, .slice (some ⟨h,0,none⟩) 1 caph] w fun e w'=>e = .returned (.slice (some ⟨g,0,none⟩) (n+1) cap)∧
   ∃cur':Array Value,w'.heap[g]? = some (.cells cur' 154 (0,0))∧cur'.size=cap*4∧cur'.toList.take ((n+1)*4)=(cur.toList.take (n*4)).take (i*4)++curh.toList.take 4++(cur.toList.take (n*4)).drop (i*4)∧KeptBut [g] w w':=by
 have hcmx:cap≤9223372036854775807:=hcm
 have hz2:¬((i:Int)=(n:Int)):=by omega
 have hov:∀lb cb,(callFunc 201 #[.slice (some ⟨h,0,none⟩) 1 caph, .slice (some ⟨g,(i+1)*4,none⟩) lb cb]).run Tryz.prog w = .ok (.value (.bool false)) w:=fun lb cb=>by
  rw[run_callFunc_extern Tryz.func201 (by kernel_rfl) (by kernel_rfl) (by kernel_rfl) (e:=Extern.SlicesOverlaps.overlaps #[41,41] #[4]) (by kernel_rfl),
   Lib.run_overlaps_apart w 41 4 154 Tryz.underlying41 4 sz154 ⟨h,0,none⟩ ⟨g,(i+1)*4,none⟩ 1 caph lb cb hne 154 154 curh.size cur.size (by simp[World.shape?,hh]) (by simp[World.shape?,hg]) (by omega) (by simp[World.frozen?,hh]) (by simp[World.frozen?,hh])]
  rfl
 obtain⟨tl,htl⟩:∃tl,tl=(cur.toList.drop (i*4)).take ((n-i)*4):=⟨_,rfl⟩
 have htll:tl.length=(n-i)*4:=by rw[htl];simp;omega
 have htl1:∀v∈tl,v.oneCell'=true:=fun v hv=>h1 v (by
  rw[htl,show(cur.toList.drop (i*4)).take ((n-i)*4)=(cur.toList.take (n*4)).drop (i*4) from by rw[List.drop_take];congr 1;omega] at hv
  exact List.mem_of_mem_drop hv)
 obtain⟨c1,hc1'⟩:∃c1,c1=(cur.toList.take ((i+1)*4)++tl++cur.toList.drop ((i+1)*4+tl.length)).toArray:=⟨_,rfl⟩
 have hc1s:c1.size=cap*4:=by rw[hc1'];simp;omega
 have hcp1:∀ty dc sc,(Builtin.copy_ #[41,41] ty #[.slice (some ⟨g,(i+1)*4,none⟩) (n+1-(i+1)) dc, .slice (some ⟨g,i*4,none⟩) (n+1-i) sc]).run Tryz.prog w.drew = .ok (goInt (Nat.min (n+1-i) (n+1-(i+1)))) (w.drew.setRow g c1):=fun ty dc sc=>by
  rw[hc1']
  exact ZcZ w.drew 41 41 ty 154 4 g ((i+1)*4) (n+1-(i+1)) dc ⟨g,i*4,none⟩ (n+1-i) sc cur 154 tl Tryz.underlying41 ZkW hg (by rw[htll];simp only[Nat.min_def];split <;> omega) (by rw[htl];exact Zba (w:=w.drew) hg (by omega)) (by rw[htll];omega) htl1
 obtain⟨W1,hW1⟩:∃W1,W1=w.drew.setRow g c1:=⟨_,rfl⟩
 rw[←hW1] at hcp1
 have hg1:W1.heap[g]? = some (.cells c1 154 (0,0)):=by rw[hW1];exact setRow_heap _ g cur _ 154 _ hg
 have hh1:W1.heap[h]? = some (.cells curh 154 (0,0)):=by
  rw[hW1,←hh]
  exact(KeptBut.setRow (w:=w.drew) (F:=[g]) (by simp) c1).block h (by have:=(Array.getElem?_eq_some_iff.1 hh).1;exact this) (by simp[hne])
 obtain⟨c2,hc2⟩:∃c2,c2=(c1.toList.take (i*4)++curh.toList.take 4++c1.toList.drop (i*4+(curh.toList.take 4).length)).toArray:=⟨_,rfl⟩
 have hyl:(curh.toList.take 4).length=4:=by simp;omega
 have hcp2:∀ty dc,(Builtin.copy_ #[41,41] ty #[.slice (some ⟨g,i*4,none⟩) (n+1-i) dc, .slice (some ⟨h,0,none⟩) 1 caph]).run Tryz.prog W1 = .ok (goInt (Nat.min 1 (n+1-i))) (W1.setRow g c2):=fun ty dc=>by
  rw[hc2]
  exact ZcZ W1 41 41 ty 154 4 g (i*4) (n+1-i) dc ⟨h,0,none⟩ 1 caph c1 154 (curh.toList.take 4) Tryz.underlying41 ZkW hg1 (by rw[hyl];simp only[Nat.min_def];split <;> omega) (by have:=Zba (o:=0) (m:=4) hh1 (by omega);simpa using this) (by rw[hyl];omega) h1h
 have hpost:∃cur':Array Value,(W1.setRow g c2).heap[g]? = some (.cells cur' 154 (0,0))∧cur'.size=cap*4∧cur'.toList.take ((n+1)*4)=(cur.toList.take (n*4)).take (i*4)++curh.toList.take 4++(cur.toList.take (n*4)).drop (i*4)∧KeptBut [g] w (W1.setRow g c2):=by
  refine⟨c2,setRow_heap W1 g c1 _ 154 _ hg1,?_,?_,?_⟩
  ·rw[hc2];simp;omega
  ·have q:=ZmT (cur:=cur.toList) (y:=curh.toList.take 4) (tl:=tl) (c1:=c1.toList) (c2:=c2.toList) (a:=i*4) (s:=4) (by simp;omega) hyl (by rw[hc1',show i*4+4=(i+1)*4 from by omega]) (by rw[hc2,hyl])
   rw[show(n+1)*4=i*4+4+tl.length from by rw[htll];omega,q,htl,show(n-i)*4=n*4-i*4 from by omega,ZkP,List.take_take,Nat.min_eq_left (by omega)]
  ·rw[hW1];exact((KeptBut.refl _ w).drew.trans (KeptBut.setRow (by simp) _)).trans (KeptBut.setRow (by simp) _)
 have hw1:IntKind.i64.wrap ((i:Int)+1)=(i:Int)+1:=by rw[IntKind.wrap_i64];omega
 have hw2:IntKind.i64.wrap ((n:Int)+1)=(n:Int)+1:=by rw[IntKind.wrap_i64];omega
 have hb1:¬((cap:Int)<(n:Int)+1):=by omega
 have hb2:¬(cap=i+1):=by omega
 have hb3:(i:Int)≤(n:Int):=by omega
 have hb4:¬(cap=i):=by omega
 have hb5:(i:Int)≤(n:Int)+1:=by omega
 have hb6:(i:Int)+1≤(n:Int)+1:=by omega
 have hb7:(n:Int)+1≤(cap:Int):=by omega
 have hb8:(0:Int)≤(i:Int)+1:=by omega
 have hb9:(0:Int)≤(n:Int)+1:=by omega
 have ht1:((i:Int)+1).toNat=i+1:=by omega
 have ht2:((n:Int)+1).toNat=n+1:=by omega
 clear hc2 hW1 hc1' htl h1 h1h
 go_enter Tryz.func153,Tryz.ntmps153
 go_wp2_with (simp only[hov])
 go_region_law (refine Zfo rfl _ _ 41 41 rfl (.slice (some ⟨g,(i+1)*4,none⟩) (n+1-(i+1)) (cap-(i+1))) (.slice (some ⟨g,i*4,none⟩) (n+1-i) (cap-i)) (by simp[Act.eval,Act.put]) (by simp[Act.eval,Act.put]) (hcp1 _ _ _) ?_)
 go_wp2_with (at_builtin;refine Zew rfl _ _ 41 41 rfl _ _ rfl rfl (hcp2 _ _) ?_)
 go_ret
 exact⟨rfl,hpost⟩
set_option maxHeartbeats 4000000 in
set_option maxRecDepth 1000000 in
theorem Zob (w:World) (g n cap i h caph:Nat) (cur curh:Array Value) (hg:w.heap[g]? = some (.cells cur 154 (0,0))) (hs:cur.size=cap*4) (hcm:cap≤maxLen) (h1:ZdU (cur.toList.take (n*4)))
  (hh:w.heap[h]? = some (.cells curh 154 (0,0))) (hhs:curh.size=caph*4) (hc1:1≤caph) (h1h:ZdU (curh.toList.take 4)) (hi:i<n) (hn:n≤cap) (hroom:cap<n+1) (hbig:(n+1)*32≤140737488355328):
  Calls Tryz.prog 153 #[.slice (some ⟨g,0,none⟩) n cap, .int .i64 i, .slice (some ⟨h,0,none⟩) 1 caph] w fun e w'=>∃cap',e = .returned (.slice (some ⟨w.heap.size,0,none⟩) (n+1) cap')∧n+1≤cap'∧cap'≤maxLen∧
   ∃cur':Array Value,w'.heap[w.heap.size]? = some (.cells cur' 154 (0,0))∧cur'.size=cap'*4∧cur'.toList.take ((n+1)*4)=(cur.toList.take (n*4)).take (i*4)++curh.toList.take 4++(cur.toList.take (n*4)).drop (i*4)∧KeptBut [] w w':=by
 have hcmx:cap≤9223372036854775807:=hcm
 have hz2:¬((i:Int)=(n:Int)):=by omega
 have hgw:g<w.heap.size:=(Array.getElem?_eq_some_iff.1 hg).1
 have hhw:h<w.heap.size:=(Array.getElem?_eq_some_iff.1 hh).1
 obtain⟨i0,hi0,hz0,hzs,hzb⟩:=info_parts info154
 have hkk:(n:Int)+1-(i:Int)=((n+1-i:Nat):Int):=by omega
 have hik:i+(n+1-i)=n+1:=by omega
 obtain⟨olds,hol⟩:∃olds,olds=cur.toList.take (i*4):=⟨_,rfl⟩
 have holl:olds.length=i*4:=by rw[hol];simp;omega
 have hold:(Builtin.firstCells i0.size i (.slice (some ⟨g,0,none⟩) i cap)).run Tryz.prog w.drew = .ok olds.toArray w.drew:=by
  rw[hzs]
  refine run_firstCells_some w.drew 4 i ⟨g,0,none⟩ i cap olds holl fun j v hj=>?_
  have:=Zba (o:=0) (m:=i*4) (w:=w.drew) hg (by omega) j v (by rw[List.drop_zero,←hol];exact hj)
  exact this
 obtain⟨G,hG⟩:∃G,G=grownCap w (n+1) cap 154:=⟨_,rfl⟩
 obtain⟨ROW,hROW⟩:∃ROW:Array Value,ROW=olds.toArray++Builtin.zeroCells (Value.agg #[.int .i64 0, .int .i64 0, .int .i64 0, .int .i64 0]).cells (n+1-i)++Builtin.zeroCells (Value.agg #[.int .i64 0, .int .i64 0, .int .i64 0, .int .i64 0]).cells (G-(n+1)):=⟨_,rfl⟩
 have hrz:∀ty,(Builtin.append_ #[41,3] ty #[.slice (some ⟨g,0,none⟩) i cap, .int .i64 ((n:Int)+1-(i:Int))]).run Tryz.prog w =
   .ok (.slice (some ⟨w.heap.size,0,none⟩) (n+1) G) (w.drew.alloc (.cells ROW 154)):=fun ty=>by
  have h:=Lib.run_append_grow_zeros w 41 3 ty 154 i0 _ .i64 .i64 Tryz.underlying41 Tryz.underlying3 hi0 hz0 (some ⟨g,0,none⟩) i cap olds hold (n+1-i) (by omega) (by omega) (by omega) (by omega) (by rw[hzb];omega) (by rw[hzb,hik];exact growslice_fits hroom hbig)
  rw[hik,←hG,←hROW] at h
  rw[hkk]
  exact h
 have hGn:n+1≤G:=by rw[hG];exact grownCap_ge w _ _ _
 have hGm:G≤maxLen:=by rw[hG];exact grownCap_le_maxLen w (n+1) cap 154 (by unfold maxLen;omega)
 have hG63:G≤9223372036854775807:=hGm
 have hRs:ROW.size=G*4:=by
  rw[hROW];simp only[Array.size_append,List.size_toArray,size_zeroCells,holl]
  rw[show(Value.agg #[.int .i64 0, .int .i64 0, .int .i64 0, .int .i64 0]).cells.size=4 from rfl];omega
 obtain⟨W1,hW1⟩:∃W1,W1=w.drew.alloc (.cells ROW 154):=⟨_,rfl⟩
 rw[←hW1] at hrz
 have hN1:W1.heap[w.heap.size]? = some (.cells ROW 154 (0,0)):=by rw[hW1];exact heap_alloc_new w.drew _
 have hk1:KeptBut [] w W1:=by rw[hW1];exact(KeptBut.refl _ w).drew.alloc _
 have hyl:(curh.toList.take 4).length=4:=by simp;omega
 obtain⟨c2,hc2⟩:∃c2,c2=(ROW.toList.take (i*4)++curh.toList.take 4++ROW.toList.drop (i*4+(curh.toList.take 4).length)).toArray:=⟨_,rfl⟩
 have hc2s:c2.size=G*4:=by rw[hc2];simp;omega
 have hcpA:∀(W:World),W.heap=W1.heap→∀ty dc,(Builtin.copy_ #[41,41] ty #[.slice (some ⟨w.heap.size,i*4,none⟩) (n+1-i) dc, .slice (some ⟨h,0,none⟩) 1 caph]).run Tryz.prog W = .ok (goInt (Nat.min 1 (n+1-i))) (W.setRow w.heap.size c2):=fun W hW ty dc=>by
  rw[hc2]
  exact ZcZ W 41 41 ty 154 4 w.heap.size (i*4) (n+1-i) dc ⟨h,0,none⟩ 1 caph ROW 154 (curh.toList.take 4) Tryz.underlying41 ZkW (by rw[hW];exact hN1) (by rw[hyl];simp only[Nat.min_def];split <;> omega)
   (by have:=Zba (w:=W) (o:=0) (m:=4) (cur:=curh) (T:=154) (g:=h) (by rw[hW,hk1.block h hhw (by simp)];exact hh) (by omega);simpa using this) (by rw[hyl];omega) h1h
 obtain⟨tl,htl⟩:∃tl,tl=(cur.toList.drop (i*4)).take ((n-i)*4):=⟨_,rfl⟩
 have htll:tl.length=(n-i)*4:=by rw[htl];simp;omega
 have htl1:∀v∈tl,v.oneCell'=true:=fun v hv=>h1 v (by
  rw[htl,show(cur.toList.drop (i*4)).take ((n-i)*4)=(cur.toList.take (n*4)).drop (i*4) from by rw[List.drop_take];congr 1;omega] at hv
  exact List.mem_of_mem_drop hv)
 obtain⟨W2,hW2⟩:∃W2,W2=W1.setRow w.heap.size c2:=⟨_,rfl⟩
 have hN2:W2.heap[w.heap.size]? = some (.cells c2 154 (0,0)):=by rw[hW2];exact setRow_heap _ _ ROW _ 154 _ hN1
 have hk2:KeptBut [w.heap.size] w W2:=by rw[hW2];exact(hk1.mono (by simp)).trans (KeptBut.setRow (by simp) _)
 obtain⟨c3,hc3⟩:∃c3,c3=(c2.toList.take ((i+1)*4)++tl++c2.toList.drop ((i+1)*4+tl.length)).toArray:=⟨_,rfl⟩
 have hcpB:∀(W:World),W.heap=W2.heap→∀ty dc sc,(Builtin.copy_ #[41,41] ty #[.slice (some ⟨w.heap.size,(i+1)*4,none⟩) (n+1-(i+1)) dc, .slice (some ⟨g,i*4,none⟩) (n-i) sc]).run Tryz.prog W = .ok (goInt (Nat.min (n-i) (n+1-(i+1)))) (W.setRow w.heap.size c3):=fun W hW ty dc sc=>by
  rw[hc3]
  exact ZcZ W 41 41 ty 154 4 w.heap.size ((i+1)*4) (n+1-(i+1)) dc ⟨g,i*4,none⟩ (n-i) sc c2 154 tl Tryz.underlying41 ZkW (by rw[hW];exact hN2) (by rw[htll];simp only[Nat.min_def];split <;> omega)
   (by rw[htl];exact Zba (w:=W) (T:=154) (by rw[hW,hk2.block g hgw (by simp;omega)];exact hg) (by omega)) (by rw[htll];omega) htl1
 have hpost:∀W,W.heap=W2.heap→KeptBut [w.heap.size] w W→∃cur':Array Value,(W.setRow w.heap.size c3).heap[w.heap.size]? = some (.cells cur' 154 (0,0))∧cur'.size=G*4∧cur'.toList.take ((n+1)*4)=(cur.toList.take (n*4)).take (i*4)++curh.toList.take 4++(cur.toList.take (n*4)).drop (i*4)∧KeptBut [] w (W.setRow w.heap.size c3):=by
  intro W hW hk
  refine⟨c3,setRow_heap W _ c2 _ 154 _ (by rw[hW];exact hN2),?_,?_,(hk.trans (KeptBut.setRow (by simp) _)).fresh (by simp)⟩
  ·rw[hc3];simp;omega
  ·have q:=ZlN (row:=ROW.toList) (y:=curh.toList.take 4) (tl:=tl) (c2:=c2.toList) (c3:=c3.toList) (a:=i*4) (s:=4) (by simp;omega) hyl (by rw[hc2,hyl]) (by rw[hc3,show i*4+4=(i+1)*4 from by omega])
   rw[show(n+1)*4=i*4+4+tl.length from by rw[htll];omega,q,htl,show(n-i)*4=n*4-i*4 from by omega,ZkP,List.take_take,Nat.min_eq_left (by omega),hROW]
   congr 2
   simp only[Array.toList_append,List.append_assoc]
   exact(List.take_left' holl).trans hol
 have hw1:IntKind.i64.wrap ((i:Int)+1)=(i:Int)+1:=by rw[IntKind.wrap_i64];omega
 have hw2:IntKind.i64.wrap ((n:Int)+1)=(n:Int)+1:=by rw[IntKind.wrap_i64];omega
 have hw3:IntKind.i64.wrap ((n:Int)+1-(i:Int))=(n:Int)+1-(i:Int):=by rw[IntKind.wrap_i64];omega
 have hz3:(cap:Int)<(n:Int)+1:=by omega
 have hGi:¬(G=i):=by omega
 have hGi1:¬(G=i+1):=by omega
 have hci:¬(cap=i):=by omega
 have hb3:(i:Int)≤(n:Int):=by omega
 have hb5:(i:Int)≤(n:Int)+1:=by omega
 have hb6:(i:Int)+1≤(n:Int)+1:=by omega
 have hb8:(0:Int)≤(i:Int)+1:=by omega
 have ht1:((i:Int)+1).toNat=i+1:=by omega
 have hb9:i≤cap:=by omega
 have hb10:(i:Int)≤(cap:Int):=by omega
 clear hkk hik hold hROW hG hc2 hc3 htl hol h1 h1h
 go_enter Tryz.func153,Tryz.ntmps153
 go_wp2_with (first
  | (at_builtin;refine Lib.wpList_append_run _ rfl _ _ _ _ rfl _ _ rfl rfl _ _ (hrz _) ?_)
  | (at_builtin;refine Zew rfl _ _ 41 41 rfl _ _ rfl rfl (hcpA _ rfl _ _) ?_))
 go_region_law (refine Zfo rfl _ _ 41 41 rfl (.slice (some ⟨w.heap.size,(i+1)*4,none⟩) (n+1-(i+1)) (G-(i+1))) (.slice (some ⟨g,i*4,none⟩) (n-i) (cap-i)) (by simp[Act.eval,Act.put]) (by simp[Act.eval,Act.put]) (hcpB _ (by rw[hW2,hW1];rfl) _ _ _) ?_)
 go_wp2
 go_ret
 exact⟨G,rfl,hGn,hGm,hpost _ (by rw[hW2,hW1];rfl) (by rw[hW2,hW1] at hk2;exact⟨hk2.os,hk2.tape,hk2.output,hk2.size,hk2.block⟩)⟩
set_option maxHeartbeats 4000000 in
set_option maxRecDepth 1000000 in
theorem ZpR:ZmU Tryz.prog 153 154 4 32:=by
 intro w v v2 n xs ys hr hr2 h1 hbig h63
 rcases hr2.2 with⟨a,rfl,h0⟩ | ⟨h,caph,curh,rfl,hch,hh,hn2,hm2,hs2,hx2⟩
 ·omega
 obtain⟨a,cap,rfl,hnc,hcm⟩:=hr.slice
 have hh:=hh.zero (show 154≠5 by decide)
 have hhw:h<w.heap.size:=(Array.getElem?_eq_some_iff.1 hh).1
 have hyl:ys.length=1*4:=hr2.1
 obtain⟨v',w',hrun,k1,k2,k3⟩:=ZfV (P:=Tryz.prog) (tab:=tab) (w:=w) (t:=41) (t2:=41) (e:=154) (ot:=41) Tryz.underlying41 (base.tab 154 _ rfl) (.inl ⟨154,Tryz.underlying41⟩) (n:=n) hr (Nat.le_refl n) (xv:=.slice (some ⟨h,0,none⟩) 1 caph) (news:=ys) (m:=1) hyl h1
  (fun w'=>by simp[Builtin.lenOf]) (fun w' hw'=>run_firstCells_some w' 4 1 ⟨h,0,none⟩ 1 caph ys hyl fun j v hj=>by
   have:=Zba (o:=0) (m:=1*4) (w:=w') (by rw[hw' h hhw];exact hh) (by omega) j v (by rw[List.drop_zero,hx2];exact hj)
   exact this) h63 hbig
 have hxl:xs.take (n*4)=xs:=List.take_of_length_le (by rw[hr.1];exact Nat.le_refl _)
 have k1':RowIs w' 154 4 (n+1) v' (xs++ys):=by
  have k1:RowIs w' 154 4 (n+1) v' (xs.take (n*4)++ys):=k1
  rw[hxl] at k1;exact k1
 clear k1
 cases a with
 | none=>
  go_enter Tryz.func153,Tryz.ntmps153
  go_wp2_with (at_builtin;refine Lib.wpList_append_run _ rfl _ _ _ _ rfl _ _ rfl rfl _ _ hrun ?_)
  all_goals (go_ret;first | exact⟨v',rfl,k1',k2,k3⟩ | (subst_vars;exact⟨v',rfl,k1',k2,k3⟩))
 | some a=>
  obtain⟨ab,ao,asp⟩:=a
  go_enter Tryz.func153,Tryz.ntmps153
  go_wp2_with (at_builtin;refine Lib.wpList_append_run _ rfl _ _ _ _ rfl _ _ rfl rfl _ _ hrun ?_)
  all_goals (go_ret;first | exact⟨v',rfl,k1',k2,k3⟩ | (subst_vars;exact⟨v',rfl,k1',k2,k3⟩))
theorem ins153:ZhM Tryz.prog 153 154 4 32:=ins_ok
 (fun w g n cap i h caph cur curh h1 h2 h3 h4 h5 h6 h7 h8 h9 h10 h11=>Zoa w g n cap i h caph cur curh h1 h2 h3 h4 h5 h6 h7 h8 h9 h10 h11)
 (fun w g n cap i h caph cur curh h1 h2 h3 h4 h5 h6 h7 h8 h9 h10 h11 h12=>Zob w g n cap i h caph cur curh h1 h2 h3 h4 h5 h6 h7 h8 h9 h10 h11 h12)
 ZpR
theorem inf311:(Tryz.prog.info? 311).map (·.size)=some 21:=by kernel_rfl
theorem zv311:∀w,(zeroValue 311).run Tryz.prog w = .ok (Value.agg #[.int .i64 0, .int .i64 0, .int .i64 0, .int .i64 0, .int .i64 0, .int .i64 0, .int .i64 0, .slice none 0 0, .int .i64 0, .bool false, .int .i64 0, .int .i64 0, .int .i64 0, .int .i64 0, .slice none 0 0, .slice none 0 0, .int .i64 0, .int .i64 0, .int .i64 0, .int .i64 0, .int .i64 0]) w:=fun w=>by kernel_rfl
set_option maxHeartbeats 4000000 in
set_option maxRecDepth 1000000 in
theorem Zo9:Zfd Tryz.prog 262:=by
 intro a n cap i w hin hn hcm
 go_enter Tryz.func262,Tryz.ntmps262
 go_wp2
 all_goals (go_ret;exact⟨rfl, .refl _ _⟩)
set_option maxHeartbeats 4000000 in
set_option maxRecDepth 1000000 in
theorem del262:ZhL Tryz.prog 262 311 21:=by
 intro g n cap i j cur w hg hs hn hcm h1 hij hj
 have hne:¬((i:Int)=(j:Int)):=by omega
 have hb1:(i:Int)≤(j:Int):=by omega
 have hb2:(j:Int)≤(n:Int):=by omega
 have hb3:(i:Int)≤(n:Int):=by omega
 have hb4:i≤cap:=by omega
 have hb5:j≤cap:=by omega
 obtain⟨news,hnews⟩:∃news,news=(cur.toList.drop (j*21)).take ((n-j)*21):=⟨_,rfl⟩
 have hnl:news.length=(n-j)*21:=by rw[hnews];simp;omega
 have hsrc:∀k v,news[k]? = some v→w.cell? ((⟨g,j*21,none⟩:Addr).add k)=some v:=by
  rw[hnews];exact Zba hg (by omega)
 have hone:∀v∈news,v.oneCell'=true:=fun v hv=>h1 v (by
  rw[hnews] at hv
  have:(cur.toList.drop (j*21)).take ((n-j)*21)=(cur.toList.take (n*21)).drop (j*21):=by
   rw[List.drop_take];congr 1;omega
  rw[this] at hv
  exact List.mem_of_mem_drop hv)
 obtain⟨c1,hc1⟩:∃c1,c1=(cur.toList.take (i*21)++news++cur.toList.drop (i*21+news.length)).toArray:=⟨_,rfl⟩
 have hap:∀(W:World) (a:Addr) (m sc:Nat) (ty:TypeId),W.heap[g]? = w.heap[g]?→m=n-j→(m=0∨a=⟨g,j*21,none⟩)→
   (Builtin.append_ #[236,236] ty #[.slice (some ⟨g,0,none⟩) i cap, .slice (some a) m sc]).run Tryz.prog W = .ok (.slice (some ⟨g,0,none⟩) (i+m) cap) (W.setRow g c1):=by
  intro W a m sc ty hW hm ha
  rw[hm] at ha ⊢
  have hst:=run_storeCells_at Tryz.prog g (i*21) 311 news 0 cur W (hW.trans hg) (by rw[hnl];omega) hone
  simp only[Nat.add_zero] at hst
  rw[←hc1] at hst
  have hfc:(Builtin.firstCells 21 (n-j) (.slice (some a) (n-j) sc)).run Tryz.prog W = .ok news.toArray W:=by
   refine run_firstCells_some (P:=Tryz.prog) W 21 (n-j) a (n-j) sc news hnl fun k v hk=>?_
   rcases ha with h | rfl
   ·have:=(List.getElem?_eq_some_iff.1 hk).1
    rw[hnl] at this;omega
   ·have:=hsrc k v hk
    rw[←this]
    simp[World.cell?,hW,Addr.add_none]
  have hr:i+(n-j)≤cap:=by omega
  cases hq:Tryz.prog.info? 311 with
  | none=>have:=inf311;rw[hq] at this;simp at this
  | some i0=>
   have hi:i0.size=21:=by have:=inf311;rw[hq] at this;simpa using this
   simp[Builtin.append_,run_underlying Tryz.underlying236,sizeOf,typeInfo,hq,hi,Builtin.lenOf,hr,hfc,Addr.add_none,hst]
 have hc1s:c1.size=cap*21:=by rw[hc1];simp;omega
 have hc1t:c1.toList.take ((i+(n-j))*21)=(cur.toList.take (n*21)).take (i*21)++(cur.toList.take (n*21)).drop (j*21):=by
  rw[hc1]
  simp only[List.append_assoc]
  rw[←List.append_assoc,show(i+(n-j))*21=(cur.toList.take (i*21)++news).length from by simp[hnl];omega,List.take_left,hnews,List.take_take,Nat.min_eq_left (by omega),List.drop_take]
  congr 2
  omega
 have hsub:n-(j-i)=i+(n-j):=by omega
 have hz:(Value.agg #[.int .i64 0, .int .i64 0, .int .i64 0, .int .i64 0, .int .i64 0, .int .i64 0, .int .i64 0, .slice none 0 0, .int .i64 0, .bool false, .int .i64 0, .int .i64 0, .int .i64 0, .int .i64 0, .slice none 0 0, .slice none 0 0, .int .i64 0, .int .i64 0, .int .i64 0, .int .i64 0, .int .i64 0]).cells.size=21:=rfl
 have hz1:∀v∈(Value.agg #[.int .i64 0, .int .i64 0, .int .i64 0, .int .i64 0, .int .i64 0, .int .i64 0, .int .i64 0, .slice none 0 0, .int .i64 0, .bool false, .int .i64 0, .int .i64 0, .int .i64 0, .int .i64 0, .slice none 0 0, .slice none 0 0, .int .i64 0, .int .i64 0, .int .i64 0, .int .i64 0, .int .i64 0]).cells,v.oneCell'=true:=by decide
 rw[hsub]
 have hcn:¬(cap=i+(n-j)):=by omega
 have hlt:((i+(n-j):Nat):Int)≤(n:Int):=by omega
 have hfin:∀(W1:World) (d:Array Value),W1.heap[g]? = some (.cells d 311 (0,0))→d.size=cap*21→d.toList.take ((i+(n-j))*21)=(cur.toList.take (n*21)).take (i*21)++(cur.toList.take (n*21)).drop (j*21)→KeptBut [g] w W1→
   ∃W2,(∀sc,(Builtin.clear_ #[236] 0 #[.slice (some ⟨g,(i+(n-j))*21,none⟩) (n-(i+(n-j))) sc]).run Tryz.prog W1 = .ok (.tuple #[]) W2)∧
    ∃cur':Array Value,W2.heap[g]? = some (.cells cur' 311 (0,0))∧cur'.size=cap*21∧cur'.toList.take ((i+(n-j))*21)=(cur.toList.take (n*21)).take (i*21)++(cur.toList.take (n*21)).drop (j*21)∧KeptBut [g] w W2:=by
  intro W1 d e1 e2 e3 e4
  obtain⟨tl,t1,t2⟩:=Zfn (P:=Tryz.prog) W1 236 311 0 _ 21 Tryz.underlying236 zv311 hz hz1 (by omega) g ((i+(n-j))*21) (n-(i+(n-j))) (by omega) d 311 e1 (by omega)
  refine⟨W1.setRow g (d.toList.take ((i+(n-j))*21)++tl++d.toList.drop ((i+(n-j))*21+tl.length)).toArray,t2,(d.toList.take ((i+(n-j))*21)++tl++d.toList.drop ((i+(n-j))*21+tl.length)).toArray,setRow_heap W1 g d _ 311 _ e1,?_,?_,e4.trans (KeptBut.setRow (by simp) _)⟩
  ·simp;omega
  ·rw[←e3,List.append_assoc]
   simp only
   rw[show(i+(n-j))*21=(d.toList.take ((i+(n-j))*21)).length from by simp;omega]
   simp
 clear hc1 hnews hz hz1 hnl hsrc hone h1
 by_cases hjn:j=n
 ·have hk:cur.toList.take ((i+(n-j))*21)=(cur.toList.take (n*21)).take (i*21)++(cur.toList.take (n*21)).drop (j*21):=by
   subst hjn
   rw[Nat.sub_self,Nat.add_zero,List.take_take,Nat.min_eq_left (by omega),List.drop_of_length_le (by simp;omega),List.append_nil]
  obtain⟨W2,hcl,hpost⟩:=hfin w.drew cur hg hs hk (KeptBut.refl _ w).drew
  have e0:i+(n-j)=i:=by omega
  rw[e0] at hcl hpost hcn ⊢
  clear hfin hc1t hap hk hsub hlt e0
  subst hjn
  by_cases hcj:cap=j
  ·subst hcj
   go_enter Tryz.func262,Tryz.ntmps262
   go_wp2
   go_region
   go_wp2_with (at_builtin;refine ZaE rfl _ 236 rfl _ rfl (hcl _) ?_)
   go_ret
   exact⟨rfl,hpost⟩
  ·go_enter Tryz.func262,Tryz.ntmps262
   go_wp2
   go_region
   go_wp2_with (at_builtin;refine ZaE rfl _ 236 rfl _ rfl (hcl _) ?_)
   go_ret
   exact⟨rfl,hpost⟩
 ·have hcj:¬(cap=j):=by omega
  obtain⟨W2,hcl,hpost⟩:=hfin (w.drew.setRow g c1) c1 (setRow_heap _ g cur _ 311 _ hg) hc1s hc1t ((KeptBut.refl _ w).drew.trans (KeptBut.setRow (by simp) _))
  clear hfin hc1t
  go_enter Tryz.func262,Tryz.ntmps262
  go_wp2
  go_region_law (refine Zex rfl _ _ 236 236 rfl _ _ (by simp[Act.eval,Act.put]) (by simp[Act.eval,Act.put]) (hap w.drew ⟨g,j*21,none⟩ (n-j) (cap-j) 236 rfl rfl (Or.inr rfl)) ?_)
  go_wp2_with (at_builtin;refine ZaE rfl _ 236 rfl _ rfl (hcl _) ?_)
  go_ret
  exact⟨rfl,hpost⟩
def ilA:List Nat:=[74,152,153,164,165,166,198,199,200,205,206,207,209,210,211,212,213,230,237,238,239,240,241,245,259,260,261,263,264,265,266,267,275,276,278,279,280,282]
def flA:List Nat:=[34,53,62,63,64,73,81,82,83,85,86,88,89,90,91,92,126,127,137,140,141,142,143,144,145,146,147,151,156,157,159,160,161,162,163,167,192,196,197,202,204,208,214,215,216,231,232,233,234,236,242,243,244,257,258,268,269,270,271,272,274,277,281,283,284,285,286,287]
def clA:List Nat:=[127,143,144,145,146,215,216]
def cnA:Nat→Zeu:=fun f=>bif Nat.beq f 91 then fun k=>bif Nat.beq k 11 then some [3,8,11,44,45,46] else none else fun _=>none
end Go.Eng.R
