/- An own evaluator of the program's form, proved sound, and what it says of this law's functions: part 8. -/
import Derived.Test.YtpcbeplajmkgpaaGreatE7
set_option linter.unusedVariables false

open Go Go.Eng Go.Proofs
namespace Go.Eng.R
noncomputable def c77:Cfg:=Z5 (P:=Tryz.prog) (tab:=tab) [] false []
def a77_0 (r_:List V×Int):List (Ex×St):=[((Ex.exit 0),(⟨[(0,(V.inl Zc r_.1)),(3,(vi r_.2))],[],0,[]⟩:St))]
def s77_0:SS:=⟨[(0,(.one (.inl Zc))),(3,(.one (.int .i64))),(4,(.one (.int .i64)))],[],0,[]⟩
noncomputable def l77_0:LE:=le0 3 s77_0 (fun st=>Zch ((((((sv st 0).L).length:Nat):Int)-((sv st 2).I)).toNat+1) ((sv st 0).L) ((sv st 1).I) ((sv st 2).I)) a77_0
noncomputable def L77:Loops:=⟨fun k=>(look [(3,[0,3,4])] k).getD [],fun _=>[],fun k=>(look [(3,[0,3])] k).getD [],Zbe [l77_0],[],fun _=>[]⟩
theorem t77_0 (k_:Nat):∀(code0:List V) (h3:Int) (i4:Int),Agr id (pk0 a77_0) (Zch k_ code0 h3 i4) (ZJ c77 L77 (lpB Tryz.f77 0) k_ (s77_0.mk' (stv [V.inl 0 code0,vi h3,vi i4] []))):=by
 induction k_ with
 | zero=>exact fun _ _ _=>g0
 | succ k_ ih=>exact fun _ _ _=>gA (g1 (g1 (g1 (ih _ _ _) g0) g4) g4) (by kernel_rfl)
theorem o77:ZC c77 L77 (ZM Tryz.f77):=GoodAll.ok (l:=[l77_0]) (.cons 0 (by kernel_rfl) (gd0 (fun st=>(((((sv st 0).L).length:Nat):Int)-((sv st 2).I)).toNat+1) (fun st=>t77_0 _ _ _ _) fun st=>by kernel_rfl) (.nil)) rfl
noncomputable def e77:En Tryz.prog tab:=enP base [] false [] Tryz.func77 (L:=L77) o77 [(.one (.inl Zc))] (fun a=>ZdC ((rd a 0).L)) (fun r_:V=>((V.nb Zz (l0 r_)),[])) [[(.inl Zc)]] [] [some Zc] false (by kernel_rfl) fun _=>gA (g2 fun _=>g4) (by kernel_rfl)
noncomputable def e154:En Tryz.prog tab:=enP base [] false [] Tryz.func154 Zag [(.rf Zz [(.inl Zc),(.int .i64),(.int .i64)])] (fun a=>Zcs ((rd a 0).unbox)) (fun r_:Int×V=>((vi r_.1),[(V.rf Zz (l0 r_.2))])) [] [[(.inl Zc)]] [none] false (by kernel_rfl) fun _=>gA (g1 (g1 g4 g0) g4) (by kernel_rfl)
set_option maxRecDepth 100000 in
noncomputable def e78:En Tryz.prog tab:=enP base [e154] false [] Tryz.func78 Zag [(.rf Zz [(.inl Zc),(.int .i64),(.int .i64)]),(.one (.int .i64))] (fun a=>Zh ((rd a 0).unbox) ((rd a 1).I)) (fun r_:Int×V=>((vi r_.1),[(V.rf Zz (l0 r_.2))])) [] [[(.inl Zc)]] [none,none] false (by kernel_rfl) fun _=>gA (g1 g4 (g1 (g2 fun _=>g1 g4 g0) (g2 fun _=>g2 fun _=>g2 fun _=>g2 fun _=>g1 g4 g0))) (by kernel_rfl)
noncomputable def e114:En Tryz.prog tab:=enP base [e78] false [] Tryz.func114 Zag [(.rf Zz [(.inl Zc),(.int .i64),(.int .i64)]),(.one (.inl t_int'))] (fun a=>ZN ((rd a 0).unbox) ((rd a 1).L)) (fun r_:Int×V=>((vi r_.1),[(V.rf Zz (l0 r_.2))])) [] [[(.inl Zc)]] [none,some t_int'] false (by kernel_rfl) fun _=>gA (g2 fun _=>g1 g4 g0) (by kernel_rfl)
noncomputable def e235:En Tryz.prog tab:=enP base [e78] false [] Tryz.func235 Zag [(.rf Zz [(.inl Zc),(.int .i64),(.int .i64)])] (fun a=>Zcw ((rd a 0).unbox)) (fun r_:List V×V=>((V.inl Zc r_.1),[(V.rf Zz (l0 r_.2))])) [[(.inl Zc)]] [[(.inl Zc)]] [none] false (by kernel_rfl) fun _=>gA (g2 fun _=>g1 g4 g0) (by kernel_rfl)
noncomputable def e219:En Tryz.prog tab:=enP base [e78] false [1000000007] Tryz.func219 Zag [(.rf Zz [(.inl Zc),(.int .i64),(.int .i64)])] (fun a=>Za7 ((rd a 0).unbox)) (fun r_:List V×V=>((V.rr Zc true r_.1),[(V.rf Zz (l0 r_.2))])) [[(.rr Zc true)]] [[(.inl Zc)]] [none] false (by kernel_rfl) fun _=>gA (g2 fun _=>g1 (g1 g4 g0) g0) (by kernel_rfl)
set_option maxRecDepth 100000 in
noncomputable def e203:En Tryz.prog tab:=enP base [e114,e235,e219,e78] false [] Tryz.func203 Zag [(.rf Zz [(.inl Zc),(.int .i64),(.int .i64)]),(.one (.int .i64))] (fun a=>ZfC ((rd a 0).unbox) ((rd a 1).I)) (fun r_:V×V=>((h1 r_.1),[(V.rf Zz (l0 r_.2))])) [[.dead,(.rr Zc true),(.inl Zc)]] [[(.inl Zc)]] [none,none] false (by kernel_rfl) fun _=>gA (g2 fun _=>g1 (g2 fun _=>g1 (g1 (g1 (g2 fun _=>g1 (g2 fun _=>g4) (g1 (g2 fun _=>g2 fun _=>g4) (g1 (g2 fun _=>g1 (g2 fun _=>g4) g4) (g1 (g2 fun _=>g1 (g2 fun _=>g4) g4) (g1 (g2 fun _=>g1 (g2 fun _=>g4) g4) g4))))) (g1 (g2 fun _=>g4) (g1 (g2 fun _=>g2 fun _=>g4) (g1 (g2 fun _=>g1 (g2 fun _=>g4) g4) (g1 (g2 fun _=>g1 (g2 fun _=>g4) g4) (g1 (g2 fun _=>g1 (g2 fun _=>g4) g4) g4)))))) (g1 (g2 fun _=>g4) (g1 (g2 fun _=>g2 fun _=>g4) (g1 (g2 fun _=>g1 (g2 fun _=>g4) g4) (g1 (g2 fun _=>g1 (g2 fun _=>g4) g4) (g1 (g2 fun _=>g1 (g2 fun _=>g4) g4) g4)))))) (g1 (g2 fun _=>g4) (g1 (g2 fun _=>g2 fun _=>g4) (g1 (g2 fun _=>g1 (g2 fun _=>g4) g4) (g1 (g2 fun _=>g1 (g2 fun _=>g4) g4) (g1 (g2 fun _=>g1 (g2 fun _=>g4) g4) g4)))))) (g1 (g2 fun _=>g1 (g1 (g1 (g2 fun _=>g1 (g2 fun _=>g4) (g1 (g2 fun _=>g2 fun _=>g4) (g1 (g2 fun _=>g1 (g2 fun _=>g4) g4) (g1 (g2 fun _=>g1 (g2 fun _=>g4) g4) (g1 (g2 fun _=>g1 (g2 fun _=>g4) g4) g4))))) (g1 (g2 fun _=>g4) (g1 (g2 fun _=>g2 fun _=>g4) (g1 (g2 fun _=>g1 (g2 fun _=>g4) g4) (g1 (g2 fun _=>g1 (g2 fun _=>g4) g4) (g1 (g2 fun _=>g1 (g2 fun _=>g4) g4) g4)))))) (g1 (g2 fun _=>g4) (g1 (g2 fun _=>g2 fun _=>g4) (g1 (g2 fun _=>g1 (g2 fun _=>g4) g4) (g1 (g2 fun _=>g1 (g2 fun _=>g4) g4) (g1 (g2 fun _=>g1 (g2 fun _=>g4) g4) g4)))))) (g1 (g2 fun _=>g4) (g1 (g2 fun _=>g2 fun _=>g4) (g1 (g2 fun _=>g1 (g2 fun _=>g4) g4) (g1 (g2 fun _=>g1 (g2 fun _=>g4) g4) (g1 (g2 fun _=>g1 (g2 fun _=>g4) g4) g4)))))) (g1 (g2 fun _=>g1 (g1 (g1 (g2 fun _=>g1 (g2 fun _=>g4) (g1 (g2 fun _=>g2 fun _=>g4) (g1 (g2 fun _=>g1 (g2 fun _=>g4) g4) (g1 (g2 fun _=>g1 (g2 fun _=>g4) g4) (g1 (g2 fun _=>g1 (g2 fun _=>g4) g4) g4))))) (g1 (g2 fun _=>g4) (g1 (g2 fun _=>g2 fun _=>g4) (g1 (g2 fun _=>g1 (g2 fun _=>g4) g4) (g1 (g2 fun _=>g1 (g2 fun _=>g4) g4) (g1 (g2 fun _=>g1 (g2 fun _=>g4) g4) g4)))))) (g1 (g2 fun _=>g4) (g1 (g2 fun _=>g2 fun _=>g4) (g1 (g2 fun _=>g1 (g2 fun _=>g4) g4) (g1 (g2 fun _=>g1 (g2 fun _=>g4) g4) (g1 (g2 fun _=>g1 (g2 fun _=>g4) g4) g4)))))) (g1 (g2 fun _=>g4) (g1 (g2 fun _=>g2 fun _=>g4) (g1 (g2 fun _=>g1 (g2 fun _=>g4) g4) (g1 (g2 fun _=>g1 (g2 fun _=>g4) g4) (g1 (g2 fun _=>g1 (g2 fun _=>g4) g4) g4)))))) (g1 (g1 (g1 (g2 fun _=>g1 (g2 fun _=>g4) (g1 (g2 fun _=>g2 fun _=>g4) (g1 (g2 fun _=>g1 (g2 fun _=>g4) g4) (g1 (g2 fun _=>g1 (g2 fun _=>g4) g4) (g1 (g2 fun _=>g1 (g2 fun _=>g4) g4) g4))))) (g1 (g2 fun _=>g4) (g1 (g2 fun _=>g2 fun _=>g4) (g1 (g2 fun _=>g1 (g2 fun _=>g4) g4) (g1 (g2 fun _=>g1 (g2 fun _=>g4) g4) (g1 (g2 fun _=>g1 (g2 fun _=>g4) g4) g4)))))) (g1 (g2 fun _=>g4) (g1 (g2 fun _=>g2 fun _=>g4) (g1 (g2 fun _=>g1 (g2 fun _=>g4) g4) (g1 (g2 fun _=>g1 (g2 fun _=>g4) g4) (g1 (g2 fun _=>g1 (g2 fun _=>g4) g4) g4)))))) (g1 (g2 fun _=>g4) (g1 (g2 fun _=>g2 fun _=>g4) (g1 (g2 fun _=>g1 (g2 fun _=>g4) g4) (g1 (g2 fun _=>g1 (g2 fun _=>g4) g4) (g1 (g2 fun _=>g1 (g2 fun _=>g4) g4) g4))))))))) (by kernel_rfl)
noncomputable def e80:En Tryz.prog tab:=enP base [e78] false [] Tryz.func80 Zag [(.rf Zz [(.inl Zc),(.int .i64),(.int .i64)]),(.one (.int .i64))] (fun a=>ZY ((rd a 0).unbox) ((rd a 1).I)) (fun r_:Bool×V=>((V.bool r_.1),[(V.rf Zz (l0 r_.2))])) [] [[(.inl Zc)]] [none,none] false (by kernel_rfl) fun _=>gA (g2 fun _=>g4) (by kernel_rfl)
set_option maxRecDepth 100000 in
noncomputable def e155:En Tryz.prog tab:=enP base [e203,e80,e78,e114] false [] Tryz.func155 Zag [(.rf Zz [(.inl Zc),(.int .i64),(.int .i64)])] (fun a=>Zey ((rd a 0).unbox)) (fun r_:V×V=>((h1 r_.1),[(V.rf Zz (l0 r_.2))])) [[.dead,(.rr Zc true),(.inl Zc)]] [[(.inl Zc)]] [none] false (by kernel_rfl) fun _=>gA (g2 fun _=>g2 fun _=>g1 (g2 fun _=>g1 (g2 fun _=>g4) (g1 (g1 g4 g0) (g1 (g2 fun _=>g1 g4 g0) (g2 fun _=>g4)))) g4) (by kernel_rfl)
set_option maxRecDepth 100000 in
noncomputable def e79:En Tryz.prog tab:=enP base [e78,e155,e80,e114] false [] Tryz.func79 Zag [(.rf Zz [(.inl Zc),(.int .i64),(.int .i64)])] (fun a=>Zcx ((rd a 0).unbox)) (fun r_:V×V=>((h2 r_.1),[(V.rf Zz (l0 r_.2))])) [q3] [[(.inl Zc)]] [none] false (by kernel_rfl) fun _=>gA (g2 fun _=>g2 fun _=>g2 fun _=>g2 fun _=>g1 (g2 fun _=>g1 (g2 fun _=>g2 fun _=>g1 (g2 fun _=>g4) g4) (g2 fun _=>g1 (g2 fun _=>g4) g4)) (g2 fun _=>g1 (g2 fun _=>g2 fun _=>g1 (g2 fun _=>g4) g4) (g2 fun _=>g1 (g2 fun _=>g4) g4))) (by kernel_rfl)
noncomputable def e133:En Tryz.prog tab:=enT base [] false [] Tryz.func133 Zag [(.one (.inl Zc))] (fun a=>ZhP ((rd a 0).L)) (fun r_:Bool=>((V.bool r_),[])) [] [] [some Zc] false (by kernel_rfl) fun _=>gT g7 (by kernel_rfl)
noncomputable def e132:En Tryz.prog tab:=enT base [] false [] Tryz.func132 Zag [(.one (.int .i64))] (fun a=>Zgs ((rd a 0).I)) (fun r_:Bool=>((V.bool r_),[])) [] [] [none] false (by kernel_rfl) fun _=>gT (g5 g7 g7) (by kernel_rfl)
noncomputable def c129:Cfg:=Z5 (P:=Tryz.prog) (tab:=tab) [] false []
def a129_0 (r_:Nat×Bool):List (Ex×St):=[(Ex.ret,(⟨[(2,(V.bool r_.2))],[],0,[]⟩:St)),((Ex.exit 0),(⟨[(2,V.dead)],[],0,[]⟩:St))]
def s129_0:SS:=⟨[(0,(.one (.inl Zc))),(3,(.one (.int .i64)))],[],0,[]⟩
noncomputable def l129_0:LE:=le1 4 s129_0 (fun st=>ZbB ((((((sv st 0).L).length:Nat):Int)-((sv st 1).I)).toNat+1) ((sv st 0).L) ((sv st 1).I)) a129_0
noncomputable def L129:Loops:=⟨fun k=>(look [(4,[0,3])] k).getD [],fun _=>[],fun k=>(look [(4,[2])] k).getD [],Zbe [l129_0],[],fun _=>[]⟩
set_option maxRecDepth 100000 in
theorem t129_0 (k_:Nat):∀(b0:List V) (i3:Int),Agr id (pk1 a129_0) (ZbB k_ b0 i3) (ZJ c129 L129 (lpB Tryz.f129 0) k_ (s129_0.mk' (stv [V.inl 0 b0,vi i3] []))):=by
 induction k_ with
 | zero=>exact fun _ _=>g0
 | succ k_ ih=>exact fun _ _=>gA (g1 (g1 (g1 (g1 (g1 g4 (ih _ _)) g0) (g1 (g1 (g1 (g1 g4 (ih _ _)) g0) (ih _ _)) g0)) g0) g4) (by kernel_rfl)
theorem o129:ZC c129 L129 (ZM Tryz.f129):=GoodAll.ok (l:=[l129_0]) (.cons 0 (by kernel_rfl) (gd1 (fun st=>(((((sv st 0).L).length:Nat):Int)-((sv st 1).I)).toNat+1) (fun st=>t129_0 _ _ _) fun st=>by kernel_rfl) (.nil)) rfl
noncomputable def e129:En Tryz.prog tab:=enP base [] false [] Tryz.func129 (L:=L129) o129 [(.one (.inl Zc))] (fun a=>Zc1 ((rd a 0).L)) (fun r_:Bool=>((V.bool r_),[])) [] [] [some Zc] false (by kernel_rfl) fun _=>gA (g1 g4 (g1 g4 (g2 fun _=>g1 g4 g4))) (by kernel_rfl)
set_option maxRecDepth 100000 in
noncomputable def e87:En Tryz.prog tab:=enP base [e133,e132,e129] false [] Tryz.func87 Zag [(.agg q4)] (fun a=>ZfD (rd a 0)) (fun r_:Bool=>((V.bool r_),[])) [] [] [none] false (by kernel_rfl) fun _=>gA (g1 g4 (g1 g4 (g1 g4 (g1 g4 (g1 (g2 fun _=>g1 g4 (g1 (g1 g4 (g1 g4 (g1 g4 (g1 g4 (g1 g4 g4))))) (g1 (g1 g4 (g1 g4 (g1 g4 (g1 g4 (g1 g4 g4))))) (g1 (g1 g4 (g1 g4 (g1 g4 (g1 g4 (g1 g4 (g1 g4 g4)))))) (g1 g4 (g1 g4 (g1 g4 (g1 g4 (g1 g4 g4))))))))) (g1 (g2 fun _=>g1 g4 (g1 (g1 g4 (g1 g4 (g1 g4 (g1 g4 (g1 g4 g4))))) (g1 (g1 g4 (g1 g4 (g1 g4 (g1 g4 (g1 g4 g4))))) (g1 (g1 g4 (g1 g4 (g1 g4 (g1 g4 (g1 g4 (g1 g4 g4)))))) (g1 g4 (g1 g4 (g1 g4 (g1 g4 (g1 g4 g4))))))))) (g1 (g2 fun _=>g1 g4 (g1 (g1 g4 (g1 g4 (g1 g4 (g1 g4 (g1 g4 g4))))) (g1 (g1 g4 (g1 g4 (g1 g4 (g1 g4 (g1 g4 g4))))) (g1 (g1 g4 (g1 g4 (g1 g4 (g1 g4 (g1 g4 (g1 g4 g4)))))) (g1 g4 (g1 g4 (g1 g4 (g1 g4 (g1 g4 g4))))))))) (g1 (g2 fun _=>g1 g4 (g1 (g1 g4 (g1 g4 (g1 g4 (g1 g4 (g1 g4 g4))))) (g1 (g1 g4 (g1 g4 (g1 g4 (g1 g4 (g1 g4 g4))))) (g1 (g1 g4 (g1 g4 (g1 g4 (g1 g4 (g1 g4 (g1 g4 g4)))))) (g1 g4 (g1 g4 (g1 g4 (g1 g4 (g1 g4 g4))))))))) (g1 (g2 fun _=>g1 g4 (g1 (g1 g4 (g1 (g1 g4 (g1 g4 (g1 g4 (g1 g4 (g1 g4 g4))))) (g1 (g1 g4 (g1 g4 (g1 g4 (g1 g4 (g1 g4 g4))))) (g1 (g1 g4 (g1 g4 (g1 g4 (g1 g4 (g1 g4 (g1 g4 g4)))))) (g1 g4 (g1 g4 (g1 g4 (g1 g4 (g1 g4 g4))))))))) (g1 (g1 g4 (g1 g4 (g1 g4 (g1 g4 (g1 g4 g4))))) (g1 (g1 g4 (g1 g4 (g1 g4 (g1 g4 (g1 g4 g4))))) (g1 (g1 g4 (g1 g4 (g1 g4 (g1 g4 (g1 g4 (g1 g4 g4)))))) (g1 g4 (g1 g4 (g1 g4 (g1 g4 (g1 g4 g4)))))))))) (g1 (g1 g4 (g1 (g1 g4 (g1 g4 (g1 g4 (g1 g4 (g1 g4 g4))))) (g1 (g1 g4 (g1 g4 (g1 g4 (g1 g4 (g1 g4 g4))))) (g1 (g1 g4 (g1 g4 (g1 g4 (g1 g4 (g1 g4 (g1 g4 g4)))))) (g1 g4 (g1 g4 (g1 g4 (g1 g4 (g1 g4 g4))))))))) (g1 (g1 g4 (g1 g4 (g1 g4 (g1 g4 (g1 g4 g4))))) (g1 (g1 g4 (g1 g4 (g1 g4 (g1 g4 (g1 g4 g4))))) (g1 (g1 g4 (g1 g4 (g1 g4 (g1 g4 (g1 g4 (g1 g4 g4)))))) (g1 g4 (g1 g4 (g1 g4 (g1 g4 (g1 g4 g4)))))))))))))))))) (by kernel_rfl)
set_option maxRecDepth 100000 in
noncomputable def e33:En Tryz.prog tab:=enP base [e87] false [] Tryz.func33 Zag [(.agg q5)] (fun a=>ZdD (rd a 0)) (fun r_:Bool=>((V.bool r_),[])) [] [] [none] false (by kernel_rfl) fun _=>gA (g1 (g1 (g1 (g2 fun _=>g4) g4) g4) (g1 (g1 (g1 (g1 (g2 fun _=>g4) g4) g4) g4) g4)) (by kernel_rfl)
noncomputable def c27:Cfg:=Z5 (P:=Tryz.prog) (tab:=tab) [e77,e78,e79,e33,e80] false []
def a27_0 (r_:List V):List (Ex×St):=[((Ex.exit 0),(⟨[(4,(vs 0 ZaU))],[(0,some (Blk.row ZaU false r_))],1,[]⟩:St))]
def s27_0:SS:=⟨[(3,(.one (.bp 0 0))),(4,(.one (.sl 1 ZaU))),(5,(.one (.int .i64))),(6,(.one (.int .i64)))],[(.box Zz [(.inl Zc),(.int .i64),(.int .i64)]),(.row ZaU false)],2,[]⟩
noncomputable def l27_0:LE:=le0 5 s27_0 (fun st=>ZaK ((((sv st 2).I)-((sv st 3).I)).toNat+1) ((sv st 2).I) ((sv st 3).I) (bc st 0) (br st 1)) a27_0
noncomputable def L27:Loops:=⟨fun k=>(look [(5,[3,4,5,6])] k).getD [],fun k=>(look [(5,[⟨4,none,false⟩])] k).getD [],fun k=>(look [(5,[4])] k).getD [],Zbe [l27_0],[],fun _=>[]⟩
set_option maxRecDepth 100000 in
theorem t27_0 (k_:Nat):∀(n5:Int) (i6:Int) (b0:V) (r1:List V),Agr id (pk0 a27_0) (ZaK k_ n5 i6 b0 r1) (ZJ c27 L27 (lpB Tryz.f27 0) k_ (s27_0.mk' (stv [.dead, .dead,vi n5,vi i6] [bx b0,rb r1]))):=by
 induction k_ with
 | zero=>exact fun _ _ _ _=>g0
 | succ k_ ih=>exact fun _ _ _ _=>gA (g1 (g2 fun _=>g2 fun _=>g1 (g1 (ih _ _ _ _) g0) (g2 fun _=>g1 (g1 (ih _ _ _ _) g0) (ih _ _ _ _))) g4) (by kernel_rfl)
theorem o27:ZC c27 L27 (ZM Tryz.f27):=GoodAll.ok (l:=[l27_0]) (.cons 0 (by kernel_rfl) (gd0 (fun st=>(((sv st 2).I)-((sv st 3).I)).toNat+1) (fun st=>t27_0 _ _ _ _ _) fun st=>by kernel_rfl) (.nil)) rfl
noncomputable def e27:En Tryz.prog tab:=enP base [e77,e78,e79,e33,e80] false [] Tryz.func27 (L:=L27) o27 [(.one (.inl Zc))] (fun a=>ZdY ((rd a 0).L)) (fun r_:List V=>((V.rr ZaU false r_),[])) [[(.rr ZaU false)]] [] [some Zc] false (by kernel_rfl) fun _=>gA (g2 fun _=>g2 fun _=>g2 fun _=>g4) (by kernel_rfl)
noncomputable def e141:En Tryz.prog tab:=enT base [] false [] Tryz.func141 Zag [] (fun a=>ZgH) (fun r_:V=>((h6 r_),[])) [q7] [] [] false (by kernel_rfl) fun _=>gT g7 (by kernel_rfl)
noncomputable def e126:En Tryz.prog tab:=enT base [] false [] Tryz.func126 Zag [(.one (.inl Zc)),(.one (.inl Zc))] (fun a=>Zep ((rd a 0).L) ((rd a 1).L)) (fun r_:Bool=>((V.bool r_),[])) [] [] [some Zc,some Zc] false (by kernel_rfl) fun _=>gT g7 (by kernel_rfl)
noncomputable def e192:En Tryz.prog tab:=enT base [e126] false [] Tryz.func192 Zag [(.agg q4),(.agg q4)] (fun a=>Zgt (rd a 0) (rd a 1)) (fun r_:Bool=>((V.bool r_),[])) [] [] [none,none] false (by kernel_rfl) fun _=>gT (g5 (g5 (g5 g7 g7) g7) g7) (by kernel_rfl)
noncomputable def e140:En Tryz.prog tab:=enT base [e192] false [] Tryz.func140 Zag [(.agg q5),(.agg q5)] (fun a=>Zez (rd a 0) (rd a 1)) (fun r_:Bool=>((V.bool r_),[])) [] [] [none,none] false (by kernel_rfl) fun _=>gT (g5 (g5 g7 g7) g7) (by kernel_rfl)
noncomputable def e73:En Tryz.prog tab:=enT base [] false [] Tryz.func73 Zag [(.one (.int .i64)),(.one (.int .i64)),(.one (.int .i64))] (fun a=>ZL ((rd a 0).I) ((rd a 1).I) ((rd a 2).I)) (fun r_:Bool=>((V.bool r_),[])) [] [] [none,none,none] false (by kernel_rfl) fun _=>gT (g5 g7 g7) (by kernel_rfl)
noncomputable def c81:Cfg:=Z5 (P:=Tryz.prog) (tab:=tab) [e73] false []
def a81_0 (r_:Nat×List V×Bool):List (Ex×St):=[(Ex.ret,(⟨[(0,(V.inl Zc r_.2.1)),(2,(V.bool r_.2.2))],[],0,[]⟩:St)),((Ex.exit 0),(⟨[(0,(V.inl Zc r_.2.1)),(2,V.dead)],[],0,[]⟩:St))]
def s81_0:SS:=⟨[(0,(.one (.inl Zc))),(5,(.one (.inl Zc))),(6,(.one (.int .i64))),(7,(.one (.int .i64)))],[],0,[]⟩
noncomputable def l81_0:LE:=le1 2 s81_0 (fun st=>ZbC ((((sv st 2).I)-((sv st 3).I)).toNat+1) ((sv st 0).L) ((sv st 1).L) ((sv st 2).I) ((sv st 3).I)) a81_0
noncomputable def L81:Loops:=⟨fun k=>(look [(2,[0,5,6,7])] k).getD [],fun _=>[],fun k=>(look [(2,[0,2])] k).getD [],Zbe [l81_0],[],fun _=>[]⟩
set_option maxRecDepth 100000 in
theorem t81_0 (k_:Nat):∀(b0:List V) (v5:List V) (v6:Int) (v7:Int),Agr id (pk1 a81_0) (ZbC k_ b0 v5 v6 v7) (ZJ c81 L81 (lpB Tryz.f81 0) k_ (s81_0.mk' (stv [V.inl 0 b0,V.inl 0 v5,vi v6,vi v7] []))):=by
 induction k_ with
 | zero=>exact fun _ _ _ _=>g0
 | succ k_ ih=>exact fun _ _ _ _=>gA (g1 (g1 (g1 (g1 g4 (ih _ _ _ _)) (g1 (g1 g4 (ih _ _ _ _)) (ih _ _ _ _))) g0) g4) (by kernel_rfl)
theorem o81:ZC c81 L81 (ZM Tryz.f81):=GoodAll.ok (l:=[l81_0]) (.cons 0 (by kernel_rfl) (gd1 (fun st=>(((sv st 2).I)-((sv st 3).I)).toNat+1) (fun st=>t81_0 _ _ _ _ _) fun st=>by kernel_rfl) (.nil)) rfl
noncomputable def e81:En Tryz.prog tab:=enP base [e73] false [] Tryz.func81 (L:=L81) o81 [(.one (.inl Zc))] (fun a=>Zb7 ((rd a 0).L)) (fun r_:Bool=>((V.bool r_),[])) [] [] [some Zc] false (by kernel_rfl) fun _=>gA (g2 fun _=>g1 g4 g4) (by kernel_rfl)
noncomputable def e82:En Tryz.prog tab:=enT base [] false [] Tryz.func82 Zag [(.one (.inl Zc))] (fun a=>ZcE ((rd a 0).L)) (fun r_:Bool=>((V.bool r_),[])) [] [] [some Zc] false (by kernel_rfl) fun _=>gT g7 (by kernel_rfl)
set_option maxRecDepth 100000 in
noncomputable def e142:En Tryz.prog tab:=enP base [e73,e81,e82] false [] Tryz.func142 Zag [(.agg q4)] (fun a=>ZgI (rd a 0)) (fun r_:Bool=>((V.bool r_),[])) [] [] [none] false (by kernel_rfl) fun _=>gA (g1 (g1 (g1 g4 g4) g4) (g1 (g1 (g2 fun _=>g1 (g1 g4 g4) g4) g4) (g1 (g1 (g2 fun _=>g1 (g1 g4 g4) g4) g4) (g1 (g1 (g2 fun _=>g1 g4 g4) g4) (g1 (g1 (g1 g4 g4) g4) (g1 (g1 (g1 g4 g4) g4) (g1 (g1 (g2 fun _=>g1 (g1 g4 g4) g4) g4) (g1 (g1 (g2 fun _=>g1 g4 g4) g4) g4)))))))) (by kernel_rfl)
noncomputable def e62:En Tryz.prog tab:=enP base [e141,e140,e73,e142] false [] Tryz.func62 Zag [(.agg q5)] (fun a=>Zbd (rd a 0)) (fun r_:Bool=>((V.bool r_),[])) [] [] [none] false (by kernel_rfl) fun _=>gA (g1 g4 (g1 (g1 (g2 fun _=>g4) g4) g4)) (by kernel_rfl)
noncomputable def e197:En Tryz.prog tab:=enT base [] false [] Tryz.func197 Zag [(.agg q8),(.one (.int .i64))] (fun a=>Zcl (rd a 0) ((rd a 1).I)) (fun r_:Int=>((vi r_),[])) [] [] [none,none] false (by kernel_rfl) fun _=>gT g7 (by kernel_rfl)
noncomputable def c196:Cfg:=Z5 (P:=Tryz.prog) (tab:=tab) [e197] false []
def a196_0 (r_:List V×Int×Int×Int):List (Ex×St):=[((Ex.exit 0),(⟨[(0,(V.inl Ze r_.1)),(1,(vi r_.2.1)),(2,(V.fn 197 [])),(8,(vi r_.2.2.1)),(9,(vi r_.2.2.2))],[],0,[]⟩:St))]
def s196_0:SS:=⟨[(0,(.one (.inl Ze))),(1,(.one (.int .i64))),(2,(.fn 197 [])),(8,(.one (.int .i64))),(9,(.one (.int .i64))),(10,(.one (.int .i64)))],[],0,[]⟩
noncomputable def l196_0:LE:=le0 3 s196_0 (fun st=>ZT ((((sv st 5).I)-((sv st 4).I)).toNat+1) ((sv st 0).L) ((sv st 1).I) ((sv st 3).I) ((sv st 4).I) ((sv st 5).I)) a196_0
noncomputable def L196:Loops:=⟨fun k=>(look [(3,[0,1,2,8,9,10])] k).getD [],fun _=>[],fun k=>(look [(3,[0,1,2,8,9])] k).getD [],Zbe [l196_0],[],fun _=>[]⟩
theorem t196_0 (k_:Nat):∀(x0:List V) (target1:Int) (n8:Int) (i9:Int) (j10:Int),Agr id (pk0 a196_0) (ZT k_ x0 target1 n8 i9 j10) (ZJ c196 L196 (lpB Tryz.f196 0) k_ (s196_0.mk' (stv [V.inl 0 x0,vi target1,V.fn 0 [],vi n8,vi i9,vi j10] []))):=by
 induction k_ with
 | zero=>exact fun _ _ _ _ _=>g0
 | succ k_ ih=>exact fun _ _ _ _ _=>gA (g1 (g1 (g1 (ih _ _ _ _ _) (ih _ _ _ _ _)) g0) g4) (by kernel_rfl)
theorem o196:ZC c196 L196 (ZM Tryz.f196):=GoodAll.ok (l:=[l196_0]) (.cons 0 (by kernel_rfl) (gd0 (fun st=>(((sv st 5).I)-((sv st 4).I)).toNat+1) (fun st=>t196_0 _ _ _ _ _ _) fun st=>by kernel_rfl) (.nil)) rfl
noncomputable def e196:En Tryz.prog tab:=enP base [e197] false [] Tryz.func196 (L:=L196) o196 [(.one (.inl Ze)),(.one (.int .i64)),(.fn 197 [])] (fun a=>ZaZ ((rd a 0).L) ((rd a 1).I)) (fun r_:Int×Bool=>((V.tup [(vi r_.1),(V.bool r_.2)]),[])) [] [] [some Ze,none,none] false (by kernel_rfl) fun _=>gA (g2 fun _=>g1 (g1 g4 g0) g4) (by kernel_rfl)
noncomputable def e151:En Tryz.prog tab:=enP base [e196] false [] Tryz.func151 Zag [(.agg q9),(.one (.int .i64))] (fun a=>Zcd (rd a 0) ((rd a 1).I)) (fun r_:Int×Bool=>((V.tup [(vi r_.1),(V.bool r_.2)]),[])) [] [] [none,none] false (by kernel_rfl) fun _=>gA (g2 fun _=>g4) (by kernel_rfl)
noncomputable def e84:En Tryz.prog tab:=enCmp base Tryz.func84 (by kernel_rfl) Zc rfl rfl rfl cmp84 [some Zc,some Zc]
noncomputable def e160:En Tryz.prog tab:=enT base [e84] false [] Tryz.func160 Zag [(.agg q10),(.one (.inl Zc))] (fun a=>ZdE (rd a 0) ((rd a 1).L)) (fun r_:Int=>((vi r_),[])) [] [] [none,some Zc] false (by kernel_rfl) fun _=>gT g7 (by kernel_rfl)
noncomputable def c159:Cfg:=Z5 (P:=Tryz.prog) (tab:=tab) [e160] false []
def a159_0 (r_:List V×List V×Int×Int):List (Ex×St):=[((Ex.exit 0),(⟨[(0,(V.inl Zg r_.1)),(1,(V.inl Zc r_.2.1)),(2,(V.fn 160 [])),(8,(vi r_.2.2.1)),(9,(vi r_.2.2.2))],[],0,[]⟩:St))]
def s159_0:SS:=⟨[(0,(.one (.inl Zg))),(1,(.one (.inl Zc))),(2,(.fn 160 [])),(8,(.one (.int .i64))),(9,(.one (.int .i64))),(10,(.one (.int .i64)))],[],0,[]⟩
noncomputable def l159_0:LE:=le0 3 s159_0 (fun st=>ZQ ((((sv st 5).I)-((sv st 4).I)).toNat+1) ((sv st 0).L) ((sv st 1).L) ((sv st 3).I) ((sv st 4).I) ((sv st 5).I)) a159_0
noncomputable def L159:Loops:=⟨fun k=>(look [(3,[0,1,2,8,9,10])] k).getD [],fun _=>[],fun k=>(look [(3,[0,1,2,8,9])] k).getD [],Zbe [l159_0],[],fun _=>[]⟩
theorem t159_0 (k_:Nat):∀(x0:List V) (target1:List V) (n8:Int) (i9:Int) (j10:Int),Agr id (pk0 a159_0) (ZQ k_ x0 target1 n8 i9 j10) (ZJ c159 L159 (lpB Tryz.f159 0) k_ (s159_0.mk' (stv [V.inl 0 x0,V.inl 0 target1,V.fn 0 [],vi n8,vi i9,vi j10] []))):=by
 induction k_ with
 | zero=>exact fun _ _ _ _ _=>g0
 | succ k_ ih=>exact fun _ _ _ _ _=>gA (g1 (g1 (g1 (ih _ _ _ _ _) (ih _ _ _ _ _)) g0) g4) (by kernel_rfl)
theorem o159:ZC c159 L159 (ZM Tryz.f159):=GoodAll.ok (l:=[l159_0]) (.cons 0 (by kernel_rfl) (gd0 (fun st=>(((sv st 5).I)-((sv st 4).I)).toNat+1) (fun st=>t159_0 _ _ _ _ _ _) fun st=>by kernel_rfl) (.nil)) rfl
noncomputable def e159:En Tryz.prog tab:=enP base [e160] false [] Tryz.func159 (L:=L159) o159 [(.one (.inl Zg)),(.one (.inl Zc)),(.fn 160 [])] (fun a=>Zbp ((rd a 0).L) ((rd a 1).L)) (fun r_:Int×Bool=>((V.tup [(vi r_.1),(V.bool r_.2)]),[])) [] [] [some Zg,some Zc,none] false (by kernel_rfl) fun _=>gA (g2 fun _=>g1 (g1 g4 g0) g4) (by kernel_rfl)
noncomputable def e85:En Tryz.prog tab:=enP base [e159] false [] Tryz.func85 Zag [(.agg q9),(.one (.inl Zc))] (fun a=>ZaR (rd a 0) ((rd a 1).L)) (fun r_:Int×Bool=>((V.tup [(vi r_.1),(V.bool r_.2)]),[])) [] [] [none,some Zc] false (by kernel_rfl) fun _=>gA (g2 fun _=>g4) (by kernel_rfl)
noncomputable def e127:En Tryz.prog tab:=enN base [] false [] Tryz.func127 Zag Zc Zy (fun r_:List V=>((V.rr Zc true r_),[])) [[(.rr Zc true)]] [] [some Zc] false (by kernel_rfl) (fun _=>gA (g1 g4 g0) (by kernel_rfl)) (by
 have h:Ze1 (wkF [[(.rr Zc true)]] []) (Z5 (P:=Tryz.prog) (tab:=tab) [] false []) noL Tryz.f127 [V.nl Zc]=(some (wkF [[(.rr Zc true)]] [] ((V.nil Zc),[]))):=by kernel_rfl
 rw[h,Zy]
 clear h
 intro r h;revert h;simp only[List.length_nil];intro h;first | (cases h;kernel_rfl) | (revert h;simp[Zv];intro h;subst h;kernel_rfl))
noncomputable def e230:En Tryz.prog tab:=enIns base Tryz.func230 (by kernel_rfl) Zg rfl true 64 rfl ins230 [some Zg,none,some Zg]
noncomputable def e162:En Tryz.prog tab:=enT base [e126] false [] Tryz.func162 Zag [(.agg [(.inl Zc),(.int .i64)]),(.ep [(.inl Zc)] 0)] (fun a=>ZfU (rd a 0) ((rd a 1).unbox)) (fun r_:Bool=>((V.bool r_),[])) [] [] [none] false (by kernel_rfl) fun _=>gT g7 (by kernel_rfl)
noncomputable def c161:Cfg:=Z5 (P:=Tryz.prog) (tab:=tab) [e162] false []
def a161_0 (r_:Nat×Int):List (Ex×St):=[(Ex.ret,(⟨[(4,(vi r_.2))],[],0,[]⟩:St)),((Ex.exit 0),(⟨[(4,V.dead)],[],0,[]⟩:St))]
def s161_0:SS:=⟨[(0,(.one (.inl Zf))),(1,(.fn 162 [[(.inl Zc)]])),(7,(.one (.int .i64))),(8,(.one (.int .i64)))],[],0,[]⟩
noncomputable def l161_0:LE:=le1 2 s161_0 (fun st=>Zav ((((sv st 2).I)-((sv st 3).I)).toNat+1) ((sv st 0).L) ((rd (sv st 1).caps 0).unbox) ((sv st 2).I) ((sv st 3).I)) a161_0
noncomputable def L161:Loops:=⟨fun k=>(look [(2,[0,1,7,8])] k).getD [],fun _=>[],fun k=>(look [(2,[4])] k).getD [],Zbe [l161_0],[],fun _=>[]⟩
theorem t161_0 (k_:Nat):∀(s0:List V) (f1_0:V) (v7:Int) (v8:Int),Agr id (pk1 a161_0) (Zav k_ s0 f1_0 v7 v8) (ZJ c161 L161 (lpB Tryz.f161 0) k_ (s161_0.mk' (stv [V.inl 0 s0,V.fn 0 [.ep (V.cells f1_0) 0],vi v7,vi v8] []))):=by
 induction k_ with
 | zero=>exact fun _ _ _ _=>g0
 | succ k_ ih=>exact fun _ _ _ _=>gA (g1 (g1 (g1 g4 (ih _ _ _ _)) g0) g4) (by kernel_rfl)
theorem o161:ZC c161 L161 (ZM Tryz.f161):=GoodAll.ok (l:=[l161_0]) (.cons 0 (by kernel_rfl) (gd1 (fun st=>(((sv st 2).I)-((sv st 3).I)).toNat+1) (fun st=>t161_0 _ _ _ _ _) fun st=>by kernel_rfl) (.nil)) rfl
noncomputable def e161:En Tryz.prog tab:=enP base [e162] false [] Tryz.func161 (L:=L161) o161 [(.one (.inl Zf)),(.fn 162 [[(.inl Zc)]])] (fun a=>Zdo ((rd a 0).L) ((rd (rd a 1).caps 0).unbox)) (fun r_:Int=>((vi r_),[])) [] [] [some Zf,none] false (by kernel_rfl) fun _=>gA (g2 fun _=>g1 g4 g4) (by kernel_rfl)
noncomputable def e86:En Tryz.prog tab:=enP base [e161] false [] Tryz.func86 Zag [(.agg q9),(.one (.inl Zc))] (fun a=>Zby (rd a 0) ((rd a 1).L)) (fun r_:Int=>((vi r_),[])) [] [] [none,some Zc] false (by kernel_rfl) fun _=>gA (g2 fun _=>g4) (by kernel_rfl)
noncomputable def e232:En Tryz.prog tab:=enDel base Tryz.func232 (by kernel_rfl) Zg rfl true del232 ZkV [some Zg,none,none]
noncomputable def Zf1:En Tryz.prog tab:=enDel base Tryz.func231 (by kernel_rfl) Zf rfl false del231 Zo7 [some Zf,none,none]
noncomputable def e157:En Tryz.prog tab:=enT base [] false [] Tryz.func157 Zag [(.agg [(.int .i64), .bool]),(.ep [(.int .i64)] 0)] (fun a=>Ze2 (rd a 0) ((rd a 1).unbox)) (fun r_:Bool=>((V.bool r_),[])) [] [] [none] false (by kernel_rfl) fun _=>gT g7 (by kernel_rfl)
noncomputable def c156:Cfg:=Z5 (P:=Tryz.prog) (tab:=tab) [e157] false []
def a156_0 (r_:Nat×Int):List (Ex×St):=[(Ex.ret,(⟨[(4,(vi r_.2))],[],0,[]⟩:St)),((Ex.exit 0),(⟨[(4,V.dead)],[],0,[]⟩:St))]
def s156_0:SS:=⟨[(0,(.one (.inl Za))),(1,(.fn 157 [[(.int .i64)]])),(7,(.one (.int .i64))),(8,(.one (.int .i64)))],[],0,[]⟩
noncomputable def l156_0:LE:=le1 2 s156_0 (fun st=>Zak ((((sv st 2).I)-((sv st 3).I)).toNat+1) ((sv st 0).L) ((rd (sv st 1).caps 0).unbox) ((sv st 2).I) ((sv st 3).I)) a156_0
noncomputable def L156:Loops:=⟨fun k=>(look [(2,[0,1,7,8])] k).getD [],fun _=>[],fun k=>(look [(2,[4])] k).getD [],Zbe [l156_0],[],fun _=>[]⟩
theorem t156_0 (k_:Nat):∀(s0:List V) (f1_0:V) (v7:Int) (v8:Int),Agr id (pk1 a156_0) (Zak k_ s0 f1_0 v7 v8) (ZJ c156 L156 (lpB Tryz.f156 0) k_ (s156_0.mk' (stv [V.inl 0 s0,V.fn 0 [.ep (V.cells f1_0) 0],vi v7,vi v8] []))):=by
 induction k_ with
 | zero=>exact fun _ _ _ _=>g0
 | succ k_ ih=>exact fun _ _ _ _=>gA (g1 (g1 (g1 g4 (ih _ _ _ _)) g0) g4) (by kernel_rfl)
theorem o156:ZC c156 L156 (ZM Tryz.f156):=GoodAll.ok (l:=[l156_0]) (.cons 0 (by kernel_rfl) (gd1 (fun st=>(((sv st 2).I)-((sv st 3).I)).toNat+1) (fun st=>t156_0 _ _ _ _ _) fun st=>by kernel_rfl) (.nil)) rfl
noncomputable def e156:En Tryz.prog tab:=enP base [e157] false [] Tryz.func156 (L:=L156) o156 [(.one (.inl Za)),(.fn 157 [[(.int .i64)]])] (fun a=>ZcF ((rd a 0).L) ((rd (rd a 1).caps 0).unbox)) (fun r_:Int=>((vi r_),[])) [] [] [some Za,none] false (by kernel_rfl) fun _=>gA (g2 fun _=>g1 g4 g4) (by kernel_rfl)
noncomputable def e83:En Tryz.prog tab:=enP base [e156] false [] Tryz.func83 Zag [(.agg q9),(.one (.int .i64))] (fun a=>Zal (rd a 0) ((rd a 1).I)) (fun r_:Int=>((vi r_),[])) [] [] [none,none] false (by kernel_rfl) fun _=>gA (g2 fun _=>g4) (by kernel_rfl)
noncomputable def e233:En Tryz.prog tab:=enDel base Tryz.func233 (by kernel_rfl) Za rfl true del233 Zo8 [some Za,none,none]
noncomputable def c199v1:Cfg:=Z5 (P:=Tryz.prog) (tab:=tab) [e232,Zf1] false []
def ZmY (r_:V×List V×List V×List V×List V):List (Ex×St):=[((Ex.exit 0),(⟨[],[(0,some (Blk.box Zk (l11 r_.1))),(1,some (Blk.row Zg true r_.2.1)),(2,some (Blk.row Zf false r_.2.2.1)),(3,some (Blk.row Za true r_.2.2.2.1)),(4,some (Blk.row Ze true r_.2.2.2.2))],5,[0]⟩:St))]
def s199v1_0:SS:=⟨[(0,(.one (.bp 0 0)))],[(.box Zk q12),(.row Zg true),(.row Zf false),(.row Za true),(.row Ze true)],5,[0]⟩
noncomputable def ZmZ:LE:=le0 2 s199v1_0 (fun st=>ZbU (((((br st 2).length:Nat):Int)-10).toNat+1) (bc st 0) (br st 1) (br st 2) (br st 3) (br st 4)) ZmY
noncomputable def Zm0:Loops:=⟨fun k=>(look [(2,[0])] k).getD [],fun _=>[],fun k=>(look [(2,[])] k).getD [],Zbe [ZmZ],[],fun _=>[]⟩
theorem t199v1_0 (k_:Nat):∀(b0:V) (r1:List V) (r2:List V) (r3:List V) (r4:List V),Agr id (pk0 ZmY) (ZbU k_ b0 r1 r2 r3 r4) (ZJ c199v1 Zm0 (lpB Tryz.f199 0) k_ (s199v1_0.mk' (stv [] [bx b0,rb r1,rb r2,rb r3,rb r4]))):=by
 induction k_ with
 | zero=>exact fun _ _ _ _ _=>g0
 | succ k_ ih=>exact fun _ _ _ _ _=>gA (g1 (g1 (g2 fun _=>ih _ _ _ _ _) g0) g4) (by kernel_rfl)
theorem o199v1:ZC c199v1 Zm0 (ZM Tryz.f199):=GoodAll.ok (l:=[ZmZ]) (.cons 0 (by kernel_rfl) (gd0 (fun st=>((((br st 2).length:Nat):Int)-10).toNat+1) (fun st=>t199v1_0 _ _ _ _ _ _) fun st=>by kernel_rfl) (.nil)) rfl
noncomputable def Zm1:En Tryz.prog tab:=enP base [e232,Zf1] false [] Tryz.func199 (L:=Zm0) o199v1 [(.rf Zk q13),(.one (.int .i64))] (fun a=>ZdF ((rd a 0).unbox) ((rd a 1).I)) (fun r_:V=>((V.tup []),[(V.rf Zk (l14 r_))])) [] [q15] [none,none] false (by kernel_rfl) fun _=>gA (g1 (g1 (g2 fun _=>g2 fun _=>g4) g0) g0) (by kernel_rfl)
noncomputable def e153:En Tryz.prog tab:=enIns base Tryz.func153 (by kernel_rfl) Ze rfl true 32 rfl ins153 [some Ze,none,some Ze]
set_option maxRecDepth 100000 in
noncomputable def e198v1:En Tryz.prog tab:=enP base [e85,e127,e230,e86,Zf1] false [] Tryz.func198 Zag [(.rf Zk q13),(.one (.inl Zc)),(.one (.inl Zc))] (fun a=>Zad ((rd a 0).unbox) ((rd a 1).L) ((rd a 2).L)) (fun r_:Bool×V=>((V.bool r_.1),[(V.rf Zk (l14 r_.2))])) [] [q15] [none,some Zc,some Zc] false (by kernel_rfl) fun _=>gA (g2 fun _=>g1 (g1 g4 (g2 fun _=>g2 fun _=>g2 fun _=>g1 (g2 fun _=>g2 fun _=>g1 (g1 g4 g0) g0) (g2 fun _=>g1 (g1 g4 g0) g0))) (g2 fun _=>g1 (g1 g4 g0) g0)) (by kernel_rfl)
noncomputable def c200v1:Cfg:=Z5 (P:=Tryz.prog) (tab:=tab) [e83,e233,Zm1] false []
def Zm2 (r_:V×List V×List V×List V×List V):List (Ex×St):=[((Ex.exit 0),(⟨[],[(0,some (Blk.box Zk (l11 r_.1))),(1,some (Blk.row Zg true r_.2.1)),(2,some (Blk.row Zf false r_.2.2.1)),(3,some (Blk.row Za true r_.2.2.2.1)),(4,some (Blk.row Ze true r_.2.2.2.2))],5,[0]⟩:St))]
def s200v1_0:SS:=⟨[(0,(.one (.bp 0 0))),(1,(.one (.int .i64))),(6,(.one .bool)),(7,(.one (.int .i64)))],[(.box Zk q12),(.row Zg true),(.row Zf false),(.row Za true),(.row Ze true)],5,[0]⟩
noncomputable def Zm3:LE:=le0 7 s200v1_0 (fun st=>Zbg (((((br st 1).length:Nat):Int)-((sv st 3).I)).toNat+1) ((sv st 1).I) ((sv st 2).B) ((sv st 3).I) (bc st 0) (br st 1) (br st 2) (br st 3) (br st 4)) Zm2
noncomputable def Zm4:Loops:=⟨fun k=>(look [(7,[0,1,6,7])] k).getD [],fun _=>[],fun k=>(look [(7,[])] k).getD [],Zbe [Zm3],[],fun _=>[]⟩
set_option maxRecDepth 100000 in
theorem t200v1_0 (k_:Nat):∀(id1:Int) (remove6:Bool) (k7:Int) (b0:V) (r1:List V) (r2:List V) (r3:List V) (r4:List V),Agr id (pk0 Zm2) (Zbg k_ id1 remove6 k7 b0 r1 r2 r3 r4) (ZJ c200v1 Zm4 (lpB Tryz.f200 0) k_ (s200v1_0.mk' (stv [.dead,vi id1,V.bool remove6,vi k7] [bx b0,rb r1,rb r2,rb r3,rb r4]))):=by
 induction k_ with
 | zero=>exact fun _ _ _ _ _ _ _ _=>g0
 | succ k_ ih=>exact fun _ _ _ _ _ _ _ _=>gA (g1 (g1 (g1 (ih _ _ _ _ _ _ _ _) (g1 (g2 fun _=>ih _ _ _ _ _ _ _ _) (g1 (g1 (ih _ _ _ _ _ _ _ _) g0) g0))) g0) g4) (by kernel_rfl)
theorem o200v1:ZC c200v1 Zm4 (ZM Tryz.f200):=GoodAll.ok (l:=[Zm3]) (.cons 0 (by kernel_rfl) (gd0 (fun st=>((((br st 1).length:Nat):Int)-((sv st 3).I)).toNat+1) (fun st=>t200v1_0 _ _ _ _ _ _ _ _ _) fun st=>by kernel_rfl) (.nil)) rfl
noncomputable def e200v1:En Tryz.prog tab:=enP base [e83,e233,Zm1] false [] Tryz.func200 (L:=Zm4) o200v1 [(.rf Zk q13),(.one (.int .i64))] (fun a=>ZfE ((rd a 0).unbox) ((rd a 1).I)) (fun r_:Int×V=>((vi r_.1),[(V.rf Zk (l14 r_.2))])) [] [q15] [none,none] false (by kernel_rfl) fun _=>gA (g2 fun _=>g1 g4 (g1 (g2 fun _=>g2 fun _=>g4) g0)) (by kernel_rfl)
set_option maxRecDepth 100000 in
noncomputable def e152v1:En Tryz.prog tab:=enP base [e85,e198v1,Zm1,e200v1,e83] false [] Tryz.func152 Zag [(.rf Zk q13),(.agg q4)] (fun a=>ZcG ((rd a 0).unbox) (rd a 1)) (fun r_:Int×V=>((vi r_.1),[(V.rf Zk (l14 r_.2))])) [] [q15] [none,none] false (by kernel_rfl) fun _=>gA (g2 fun _=>g1 (g1 (g1 (g1 (g1 g4 (g2 fun _=>g1 g4 g4)) (g2 fun _=>g1 g4 g4)) g0) (g1 (g1 g4 (g2 fun _=>g1 g4 g4)) (g2 fun _=>g1 g4 g4))) (g1 (g1 (g1 (g1 (g1 g4 (g2 fun _=>g1 g4 g4)) (g2 fun _=>g1 g4 g4)) g0) (g1 (g1 g4 (g2 fun _=>g1 g4 g4)) (g2 fun _=>g1 g4 g4))) (g1 (g1 g4 (g2 fun _=>g4)) (g1 (g1 g4 (g1 g4 g0)) (g1 (g2 fun _=>g4) (g1 (g2 fun _=>g1 g4 (g1 (g1 (g1 (g1 (g1 g4 (g2 fun _=>g1 g4 (g1 g4 g0))) g0) (g2 fun _=>g1 g4 (g1 g4 g0))) g0) (g2 fun _=>g1 g4 (g1 g4 g0)))) (g1 (g1 g4 (g1 (g1 g4 (g1 (g1 g4 g0) g0)) g0)) g4))))))) (by kernel_rfl)
set_option maxRecDepth 100000 in
noncomputable def e74v1:En Tryz.prog tab:=enP base [e151,e152v1,e153] false [] Tryz.func74 Zag [(.rf Zk q13),(.agg q5)] (fun a=>ZdV ((rd a 0).unbox) (rd a 1)) (fun r_:V×V=>((ZA r_.1),[(V.rf Zk (l14 r_.2))])) [] [q15] [none,none] false (by kernel_rfl) fun _=>gA (g1 g4 (g2 fun _=>g1 (g1 (g1 (g1 g4 g0) (g1 (g1 (g1 g4 (g2 fun _=>g1 (g1 g4 g0) (g2 fun _=>g4))) g0) (g2 fun _=>g1 (g1 g4 g0) (g2 fun _=>g4)))) g0) (g1 (g1 (g1 g4 (g2 fun _=>g1 (g1 g4 g0) (g2 fun _=>g4))) g0) (g2 fun _=>g1 (g1 g4 g0) (g2 fun _=>g4))))) (by kernel_rfl)
noncomputable def c28:Cfg:=Z5 (P:=Tryz.prog) (tab:=tab) [e62,e74v1] false []
def a28_0 (r_:V×V×List V×List V×List V×List V×List V×List V×List V×List V×List V):List (Ex×St):=[((Ex.exit 0),(⟨[(2,(V.bp 0 0)),(4,(V.bp 1 0)),(5,(vs 2 Zbz))],[(0,some (Blk.box Zk (l16 r_.1))),(1,some (Blk.box Zk (l17 r_.2.1))),(2,some (Blk.row Zbz true r_.2.2.1)),(3,some (Blk.row Zg true r_.2.2.2.1)),(4,some (Blk.row Zf true r_.2.2.2.2.1)),(5,some (Blk.row Za true r_.2.2.2.2.2.1)),(6,some (Blk.row Ze true r_.2.2.2.2.2.2.1)),(7,some (Blk.row Zg true r_.2.2.2.2.2.2.2.1)),(8,some (Blk.row Zf false r_.2.2.2.2.2.2.2.2.1)),(9,some (Blk.row Za true r_.2.2.2.2.2.2.2.2.2.1)),(10,some (Blk.row Ze true r_.2.2.2.2.2.2.2.2.2.2))],11,[]⟩:St))]
def s28_0:SS:=⟨[(2,(.one (.bp 0 0))),(4,(.one (.bp 1 0))),(5,(.one (.sl 2 Zbz))),(12,(.one (.inl ZaU))),(13,(.one (.int .i64))),(14,(.one (.int .i64)))],[(.box Zk q18),(.box Zk q19),(.row Zbz true),(.row Zg true),(.row Zf true),(.row Za true),(.row Ze true),(.row Zg true),(.row Zf false),(.row Za true),(.row Ze true)],11,[]⟩
noncomputable def l28_0:LE:=le0 6 s28_0 (fun st=>ZaF ((((sv st 4).I)-((sv st 5).I)).toNat+1) ((sv st 3).L) ((sv st 4).I) ((sv st 5).I) (bc st 0) (bc st 1) (br st 2) (br st 3) (br st 4) (br st 5) (br st 6) (br st 7) (br st 8) (br st 9) (br st 10)) a28_0
noncomputable def L28:Loops:=⟨fun k=>(look [(6,[2,4,5,12,13,14])] k).getD [],fun k=>(look [(6,[⟨2,some 1,true⟩,⟨2,some 2,true⟩,⟨2,some 4,true⟩,⟨2,some 5,true⟩,⟨4,some 1,true⟩,⟨4,some 4,true⟩,⟨4,some 5,true⟩,⟨5,none,true⟩,⟨4,some 2,false⟩])] k).getD [],fun k=>(look [(6,[2,4,5])] k).getD [],Zbe [l28_0],[],fun _=>[]⟩
theorem t28_0 (k_:Nat):∀(v12:List V) (v13:Int) (v14:Int) (b0:V) (b1:V) (r2:List V) (r3:List V) (r4:List V) (r5:List V) (r6:List V) (r7:List V) (r8:List V) (r9:List V) (r10:List V),Agr id (pk0 a28_0) (ZaF k_ v12 v13 v14 b0 b1 r2 r3 r4 r5 r6 r7 r8 r9 r10) (ZJ c28 L28 (lpB Tryz.f28 0) k_ (s28_0.mk' (stv [.dead, .dead, .dead,V.inl 0 v12,vi v13,vi v14] [bx b0,bx b1,rb r2,rb r3,rb r4,rb r5,rb r6,rb r7,rb r8,rb r9,rb r10]))):=by
 induction k_ with
 | zero=>exact fun _ _ _ _ _ _ _ _ _ _ _ _ _ _=>g0
 | succ k_ ih=>exact fun _ _ _ _ _ _ _ _ _ _ _ _ _ _=>gA (g1 (g1 (g2 fun _=>g1 g4 (g2 fun _=>g1 (ih _ _ _ _ _ _ _ _ _ _ _ _ _ _) g0)) g0) g4) (by kernel_rfl)
theorem o28:ZC c28 L28 (ZM Tryz.f28):=GoodAll.ok (l:=[l28_0]) (.cons 0 (by kernel_rfl) (gd0 (fun st=>(((sv st 4).I)-((sv st 5).I)).toNat+1) (fun st=>t28_0 _ _ _ _ _ _ _ _ _ _ _ _ _ _ _) fun st=>by kernel_rfl) (.nil)) rfl
noncomputable def e28:En Tryz.prog tab:=enP base [e62,e74v1] false [] Tryz.func28 (L:=L28) o28 [(.one (.inl ZaU))] (fun a=>Zfq ((rd a 0).L)) (fun r_:V×List V=>((V.tup [(h20 r_.1),(V.rr Zbz true r_.2)]),[])) [q15,[(.rr Zbz true)]] [] [some ZaU] false (by kernel_rfl) fun _=>gA (g1 g4 (g2 fun _=>g4)) (by kernel_rfl)
noncomputable def c29:Cfg:=Z5 (P:=Tryz.prog) (tab:=tab) [e73,e81,e82,e83,e84,e85,e86] false []
def a29_0 (r_:Nat×Bool×V):List (Ex×St):=[(Ex.ret,(⟨[(1,(V.bp 0 0)),(2,(V.bool r_.2.1))],[(0,some (Blk.box Zk (l21 r_.2.2)))],1,[]⟩:St)),((Ex.exit 0),(⟨[(1,(V.bp 0 0)),(2,V.dead)],[(0,some (Blk.box Zk (l21 r_.2.2)))],1,[]⟩:St))]
def s29_0:SS:=⟨[(1,(.one (.bp 0 0))),(51,(.one (.inl Zg))),(52,(.one (.int .i64))),(53,(.one (.int .i64)))],[(.box Zk q9)],1,[]⟩
noncomputable def l29_0:LE:=le1 4 s29_0 (fun st=>ZaL ((((sv st 2).I)-((sv st 3).I)).toNat+1) ((sv st 1).L) ((sv st 2).I) ((sv st 3).I) (bc st 0)) a29_0
def a29_1 (r_:Nat×Bool×V):List (Ex×St):=[(Ex.ret,(⟨[(1,(V.bp 0 0)),(2,(V.bool r_.2.1))],[(0,some (Blk.box Zk (l21 r_.2.2)))],1,[]⟩:St)),((Ex.exit 2),(⟨[(1,(V.bp 0 0)),(2,V.dead)],[(0,some (Blk.box Zk (l21 r_.2.2)))],1,[]⟩:St))]
def s29_1:SS:=⟨[(1,(.one (.bp 0 0))),(5,(.one (.int .i64))),(110,(.one (.inl Zf))),(111,(.one (.int .i64))),(112,(.one (.int .i64)))],[(.box Zk q9)],1,[]⟩
noncomputable def l29_1:LE:=le1 11 s29_1 (fun st=>Za1 ((((sv st 3).I)-((sv st 4).I)).toNat+1) ((sv st 1).I) ((sv st 2).L) ((sv st 3).I) ((sv st 4).I) (bc st 0)) a29_1
def a29_2 (r_:Nat×Bool×V):List (Ex×St):=[(Ex.ret,(⟨[(1,(V.bp 0 0)),(2,(V.bool r_.2.1))],[(0,some (Blk.box Zk (l21 r_.2.2)))],1,[]⟩:St)),((Ex.exit 4),(⟨[(1,(V.bp 0 0)),(2,V.dead)],[(0,some (Blk.box Zk (l21 r_.2.2)))],1,[]⟩:St))]
def s29_2:SS:=⟨[(1,(.one (.bp 0 0))),(152,(.one (.inl Za))),(153,(.one (.int .i64))),(154,(.one (.int .i64)))],[(.box Zk q9)],1,[]⟩
noncomputable def l29_2:LE:=le1 19 s29_2 (fun st=>Za2 ((((sv st 2).I)-((sv st 3).I)).toNat+1) ((sv st 1).L) ((sv st 2).I) ((sv st 3).I) (bc st 0)) a29_2
def a29_3 (r_:Nat×Bool):List (Ex×St):=[(Ex.ret,(⟨[(2,(V.bool r_.2))],[],0,[]⟩:St)),((Ex.exit 6),(⟨[(2,V.dead)],[],0,[]⟩:St))]
def s29_3:SS:=⟨[(1,(.one (.bp 0 0))),(183,(.one (.inl Ze))),(184,(.one (.int .i64))),(185,(.one (.int .i64)))],[(.box Zk q9)],1,[]⟩
noncomputable def l29_3:LE:=le1 25 s29_3 (fun st=>Za3 ((((sv st 2).I)-((sv st 3).I)).toNat+1) ((sv st 1).L) ((sv st 2).I) ((sv st 3).I) (bc st 0)) a29_3
noncomputable def L29:Loops:=⟨fun k=>(look [(4,[1,51,52,53]),(11,[1,5,110,111,112]),(19,[1,152,153,154]),(25,[1,183,184,185])] k).getD [],fun _=>[],fun k=>(look [(4,[1,2]),(11,[1,2]),(19,[1,2]),(25,[2])] k).getD [],Zbe [l29_0,l29_1,l29_2,l29_3],[],fun _=>[]⟩
set_option maxRecDepth 100000 in
theorem t29_0 (k_:Nat):∀(v51:List V) (v52:Int) (v53:Int) (b0:V),Agr id (pk1 a29_0) (ZaL k_ v51 v52 v53 b0) (ZJ c29 L29 (lpB Tryz.f29 0) k_ (s29_0.mk' (stv [.dead,V.inl 0 v51,vi v52,vi v53] [bx b0]))):=by
 induction k_ with
 | zero=>exact fun _ _ _ _=>g0
 | succ k_ ih=>exact fun _ _ _ _=>gA (g1 (g1 (g2 fun _=>g1 g4 (g1 g4 (g1 g4 (g1 (g2 fun _=>g1 g4 (g1 (g1 (g1 g4 (ih _ _ _ _)) g0) (ih _ _ _ _))) (g1 (g1 (g1 g4 (ih _ _ _ _)) g0) (ih _ _ _ _)))))) g0) g4) (by kernel_rfl)
set_option maxRecDepth 100000 in
theorem t29_1 (k_:Nat):∀(before5:Int) (v110:List V) (v111:Int) (v112:Int) (b0:V),Agr id (pk1 a29_1) (Za1 k_ before5 v110 v111 v112 b0) (ZJ c29 L29 (lpB Tryz.f29 1) k_ (s29_1.mk' (stv [.dead,vi before5,V.inl 0 v110,vi v111,vi v112] [bx b0]))):=by
 induction k_ with
 | zero=>exact fun _ _ _ _ _=>g0
 | succ k_ ih=>exact fun _ _ _ _ _=>gA (g1 (g1 (g2 fun _=>g1 g4 (g2 fun _=>g1 g4 (g2 fun _=>g1 g4 (g1 g4 (ih _ _ _ _ _))))) g0) g4) (by kernel_rfl)
set_option maxRecDepth 100000 in
theorem t29_2 (k_:Nat):∀(v152:List V) (v153:Int) (v154:Int) (b0:V),Agr id (pk1 a29_2) (Za2 k_ v152 v153 v154 b0) (ZJ c29 L29 (lpB Tryz.f29 2) k_ (s29_2.mk' (stv [.dead,V.inl 0 v152,vi v153,vi v154] [bx b0]))):=by
 induction k_ with
 | zero=>exact fun _ _ _ _=>g0
 | succ k_ ih=>exact fun _ _ _ _=>gA (g1 (g1 (g1 g4 (g1 (g1 (g1 g4 (ih _ _ _ _)) g0) (ih _ _ _ _))) g0) g4) (by kernel_rfl)
set_option maxRecDepth 100000 in
theorem t29_3 (k_:Nat):∀(v183:List V) (v184:Int) (v185:Int) (b0:V),Agr id (pk1 a29_3) (Za3 k_ v183 v184 v185 b0) (ZJ c29 L29 (lpB Tryz.f29 3) k_ (s29_3.mk' (stv [.dead,V.inl 0 v183,vi v184,vi v185] [bx b0]))):=by
 induction k_ with
 | zero=>exact fun _ _ _ _=>g0
 | succ k_ ih=>exact fun _ _ _ _=>gA (g1 (g1 (g1 g4 (g1 g4 (g1 g4 (g1 g4 (g1 (g1 (g1 g4 (ih _ _ _ _)) g0) (ih _ _ _ _)))))) g0) g4) (by kernel_rfl)
theorem o29:ZC c29 L29 (ZM Tryz.f29):=GoodAll.ok (l:=[l29_0,l29_1,l29_2,l29_3]) (.cons 0 (by kernel_rfl) (gd1 (fun st=>(((sv st 2).I)-((sv st 3).I)).toNat+1) (fun st=>t29_0 _ _ _ _ _) fun st=>by kernel_rfl) (.cons 1 (by kernel_rfl) (gd1 (fun st=>(((sv st 3).I)-((sv st 4).I)).toNat+1) (fun st=>t29_1 _ _ _ _ _ _) fun st=>by kernel_rfl) (.cons 2 (by kernel_rfl) (gd1 (fun st=>(((sv st 2).I)-((sv st 3).I)).toNat+1) (fun st=>t29_2 _ _ _ _ _) fun st=>by kernel_rfl) (.cons 3 (by kernel_rfl) (gd1 (fun st=>(((sv st 2).I)-((sv st 3).I)).toNat+1) (fun st=>t29_3 _ _ _ _ _) fun st=>by kernel_rfl) (.nil))))) rfl
set_option maxRecDepth 100000 in
noncomputable def e29:En Tryz.prog tab:=enP base [e73,e81,e82,e83,e84,e85,e86] false [] Tryz.func29 (L:=L29) o29 [(.agg q9)] (fun a=>Zdp (rd a 0)) (fun r_:Bool=>((V.bool r_),[])) [] [] [none] false (by kernel_rfl) fun _=>gA (g1 g4 (g1 g4 (g1 g4 (g1 g4 (g1 g4 (g1 g4 (g2 fun _=>g1 g4 (g2 fun _=>g1 g4 (g2 fun _=>g1 g4 (g2 fun _=>g1 g4 g4)))))))))) (by kernel_rfl)
noncomputable def e143:En Tryz.prog tab:=enN base [] false [] Tryz.func143 Zag Zg ZcH (fun r_:List V=>((V.rr Zg false r_),[])) [[(.rr Zg false)]] [] [some Zg] false (by kernel_rfl) (fun _=>gA (g1 g4 g0) (by kernel_rfl)) (by
 have h:Ze1 (wkF [[(.rr Zg false)]] []) (Z5 (P:=Tryz.prog) (tab:=tab) [] false []) noL Tryz.f143 [V.nl Zg]=(some (wkF [[(.rr Zg false)]] [] ((V.nil Zg),[]))):=by kernel_rfl
 rw[h,ZcH]
 clear h
 intro r h;revert h;simp only[List.length_nil];intro h;first | (cases h;kernel_rfl) | (revert h;simp[Zv];intro h;subst h;kernel_rfl))
noncomputable def e144:En Tryz.prog tab:=enN base [] false [] Tryz.func144 Zag Zf Zcm (fun r_:List V=>((V.rr Zf false r_),[])) [[(.rr Zf false)]] [] [some Zf] false (by kernel_rfl) (fun _=>gA (g1 g4 g0) (by kernel_rfl)) (by
 have h:Ze1 (wkF [[(.rr Zf false)]] []) (Z5 (P:=Tryz.prog) (tab:=tab) [] false []) noL Tryz.f144 [V.nl Zf]=(some (wkF [[(.rr Zf false)]] [] ((V.nil Zf),[]))):=by kernel_rfl
 rw[h,Zcm]
 clear h
 intro r h;revert h;simp only[List.length_nil];intro h;first | (cases h;kernel_rfl) | (revert h;simp[Zv];intro h;subst h;kernel_rfl))
noncomputable def e145:En Tryz.prog tab:=enN base [] false [] Tryz.func145 Zag Za ZbL (fun r_:List V=>((V.rr Za true r_),[])) [[(.rr Za true)]] [] [some Za] false (by kernel_rfl) (fun _=>gA (g1 g4 g0) (by kernel_rfl)) (by
 have h:Ze1 (wkF [[(.rr Za true)]] []) (Z5 (P:=Tryz.prog) (tab:=tab) [] false []) noL Tryz.f145 [V.nl Za]=(some (wkF [[(.rr Za true)]] [] ((V.nil Za),[]))):=by kernel_rfl
 rw[h,ZbL]
 clear h
 intro r h;revert h;simp only[List.length_nil];intro h;first | (cases h;kernel_rfl) | (revert h;simp[Zv];intro h;subst h;kernel_rfl))
noncomputable def e146:En Tryz.prog tab:=enN base [] false [] Tryz.func146 Zag Ze Zcn (fun r_:List V=>((V.rr Ze true r_),[])) [[(.rr Ze true)]] [] [some Ze] false (by kernel_rfl) (fun _=>gA (g1 g4 g0) (by kernel_rfl)) (by
 have h:Ze1 (wkF [[(.rr Ze true)]] []) (Z5 (P:=Tryz.prog) (tab:=tab) [] false []) noL Tryz.f146 [V.nl Ze]=(some (wkF [[(.rr Ze true)]] [] ((V.nil Ze),[]))):=by kernel_rfl
 rw[h,Zcn]
 clear h
 intro r h;revert h;simp only[List.length_nil];intro h;first | (cases h;kernel_rfl) | (revert h;simp[Zv];intro h;subst h;kernel_rfl))
noncomputable def c63:Cfg:=Z5 (P:=Tryz.prog) (tab:=tab) [e143,e144,e145,e146,e127] false []
def a63_0 (r_:V×V×List V×List V×List V×List V×List V×List V×List V×List V):List (Ex×St):=[((Ex.exit 0),(⟨[(1,(V.bp 0 0)),(2,(V.bp 1 0))],[(0,some (Blk.box Zk (l22 r_.1))),(1,some (Blk.box Zk (l23 r_.2.1))),(2,some (Blk.row Zg false r_.2.2.1)),(3,some (Blk.row Zf false r_.2.2.2.1)),(4,some (Blk.row Za true r_.2.2.2.2.1)),(5,some (Blk.row Ze true r_.2.2.2.2.2.1)),(6,some (Blk.row Zg true r_.2.2.2.2.2.2.1)),(7,some (Blk.row Zf true r_.2.2.2.2.2.2.2.1)),(8,some (Blk.row Za true r_.2.2.2.2.2.2.2.2.1)),(9,some (Blk.row Ze true r_.2.2.2.2.2.2.2.2.2))],10,[]⟩:St))]
def s63_0:SS:=⟨[(1,(.one (.bp 0 0))),(2,(.one (.bp 1 0))),(24,(.one (.sl 2 Zg))),(25,(.one (.int .i64))),(26,(.one (.int .i64)))],[(.box Zk q24),(.box Zk q25),(.row Zg false),(.row Zf false),(.row Za true),(.row Ze true),(.row Zg true),(.row Zf true),(.row Za true),(.row Ze true)],10,[]⟩
noncomputable def l63_0:LE:=le0 3 s63_0 (fun st=>Zbb ((((sv st 3).I)-((sv st 4).I)).toNat+1) ((sv st 3).I) ((sv st 4).I) (bc st 0) (bc st 1) (br st 2) (br st 3) (br st 4) (br st 5) (br st 6) (br st 7) (br st 8) (br st 9)) a63_0
def a63_1 (r_:V×V×List V×List V×List V×List V×List V×List V×List V×List V):List (Ex×St):=[((Ex.exit 2),(⟨[(1,(V.bp 0 0)),(2,(V.bp 1 0))],[(0,some (Blk.box Zk (l22 r_.1))),(1,some (Blk.box Zk (l23 r_.2.1))),(2,some (Blk.row Zg false r_.2.2.1)),(3,some (Blk.row Zf false r_.2.2.2.1)),(4,some (Blk.row Za true r_.2.2.2.2.1)),(5,some (Blk.row Ze true r_.2.2.2.2.2.1)),(6,some (Blk.row Zg true r_.2.2.2.2.2.2.1)),(7,some (Blk.row Zf true r_.2.2.2.2.2.2.2.1)),(8,some (Blk.row Za true r_.2.2.2.2.2.2.2.2.1)),(9,some (Blk.row Ze true r_.2.2.2.2.2.2.2.2.2))],10,[]⟩:St))]
def s63_1:SS:=⟨[(1,(.one (.bp 0 0))),(2,(.one (.bp 1 0))),(49,(.one (.sl 2 Zf))),(50,(.one (.int .i64))),(51,(.one (.int .i64)))],[(.box Zk q26),(.box Zk q25),(.row Zf false),(.row Zg false),(.row Za true),(.row Ze true),(.row Zg true),(.row Zf true),(.row Za true),(.row Ze true)],10,[]⟩
noncomputable def l63_1:LE:=le0 8 s63_1 (fun st=>Zbc ((((sv st 3).I)-((sv st 4).I)).toNat+1) ((sv st 3).I) ((sv st 4).I) (bc st 0) (bc st 1) (br st 2) (br st 3) (br st 4) (br st 5) (br st 6) (br st 7) (br st 8) (br st 9)) a63_1
noncomputable def L63:Loops:=⟨fun k=>(look [(3,[1,2,24,25,26]),(8,[1,2,49,50,51])] k).getD [],fun k=>(look [(3,[⟨2,some 1,true⟩,⟨2,some 2,true⟩,⟨2,some 4,true⟩,⟨2,some 5,true⟩])] k).getD [],fun k=>(look [(3,[1,2]),(8,[1,2])] k).getD [],Zbe [l63_0,l63_1],[],fun _=>[]⟩
theorem t63_0 (k_:Nat):∀(v25:Int) (v26:Int) (b0:V) (b1:V) (r2:List V) (r3:List V) (r4:List V) (r5:List V) (r6:List V) (r7:List V) (r8:List V) (r9:List V),Agr id (pk0 a63_0) (Zbb k_ v25 v26 b0 b1 r2 r3 r4 r5 r6 r7 r8 r9) (ZJ c63 L63 (lpB Tryz.f63 0) k_ (s63_0.mk' (stv [.dead, .dead, .dead,vi v25,vi v26] [bx b0,bx b1,rb r2,rb r3,rb r4,rb r5,rb r6,rb r7,rb r8,rb r9]))):=by
 induction k_ with
 | zero=>exact fun _ _ _ _ _ _ _ _ _ _ _ _=>g0
 | succ k_ ih=>exact fun _ _ _ _ _ _ _ _ _ _ _ _=>gA (g1 (g1 (g2 fun _=>g2 fun _=>g1 (g1 (ih _ _ _ _ _ _ _ _ _ _ _ _) g0) g0) g0) g4) (by kernel_rfl)
theorem t63_1 (k_:Nat):∀(v50:Int) (v51:Int) (b0:V) (b1:V) (r2:List V) (r3:List V) (r4:List V) (r5:List V) (r6:List V) (r7:List V) (r8:List V) (r9:List V),Agr id (pk0 a63_1) (Zbc k_ v50 v51 b0 b1 r2 r3 r4 r5 r6 r7 r8 r9) (ZJ c63 L63 (lpB Tryz.f63 1) k_ (s63_1.mk' (stv [.dead, .dead, .dead,vi v50,vi v51] [bx b0,bx b1,rb r2,rb r3,rb r4,rb r5,rb r6,rb r7,rb r8,rb r9]))):=by
 induction k_ with
 | zero=>exact fun _ _ _ _ _ _ _ _ _ _ _ _=>g0
 | succ k_ ih=>exact fun _ _ _ _ _ _ _ _ _ _ _ _=>gA (g1 (g1 (g2 fun _=>g1 (ih _ _ _ _ _ _ _ _ _ _ _ _) g0) g0) g4) (by kernel_rfl)
theorem o63:ZC c63 L63 (ZM Tryz.f63):=GoodAll.ok (l:=[l63_0,l63_1]) (.cons 0 (by kernel_rfl) (gd0 (fun st=>(((sv st 3).I)-((sv st 4).I)).toNat+1) (fun st=>t63_0 _ _ _ _ _ _ _ _ _ _ _ _ _) fun st=>by kernel_rfl) (.cons 1 (by kernel_rfl) (gd0 (fun st=>(((sv st 3).I)-((sv st 4).I)).toNat+1) (fun st=>t63_1 _ _ _ _ _ _ _ _ _ _ _ _ _) fun st=>by kernel_rfl) (.nil))) rfl
noncomputable def e63:En Tryz.prog tab:=enP base [e143,e144,e145,e146,e127] false [] Tryz.func63 (L:=L63) o63 [(.agg q9)] (fun a=>Za8 (rd a 0)) (fun r_:V=>((h27 r_),[])) [q28] [] [none] false (by kernel_rfl) fun _=>gA (g2 fun _=>g2 fun _=>g2 fun _=>g2 fun _=>g2 fun _=>g2 fun _=>g4) (by kernel_rfl)
noncomputable def e230m:En Tryz.prog tab:=enIns2 base Tryz.func230 (by kernel_rfl) Zg rfl false true 64 rfl ins230 [some Zg,none,some Zg]
set_option maxRecDepth 100000 in
noncomputable def e198:En Tryz.prog tab:=enP base [e85,e127,e230m,e86,Zf1] false [] Tryz.func198 Zag [(.rf Zk q29),(.one (.inl Zc)),(.one (.inl Zc))] (fun a=>ZU ((rd a 0).unbox) ((rd a 1).L) ((rd a 2).L)) (fun r_:Bool×V=>((V.bool r_.1),[(V.rf Zk (l30 r_.2))])) [] [q28] [none,some Zc,some Zc] false (by kernel_rfl) fun _=>gA (g2 fun _=>g1 (g1 g4 (g2 fun _=>g2 fun _=>g2 fun _=>g1 (g2 fun _=>g2 fun _=>g1 (g1 g4 g0) g0) (g2 fun _=>g1 (g1 g4 g0) g0))) (g2 fun _=>g1 (g1 g4 g0) g0)) (by kernel_rfl)
noncomputable def e232s:En Tryz.prog tab:=enDel base Tryz.func232 (by kernel_rfl) Zg rfl false del232 ZkV [some Zg,none,none]
noncomputable def c199:Cfg:=Z5 (P:=Tryz.prog) (tab:=tab) [e232s,Zf1] false []
def a199_0 (r_:V×List V×List V×List V×List V):List (Ex×St):=[((Ex.exit 0),(⟨[],[(0,some (Blk.box Zk (l11 r_.1))),(1,some (Blk.row Zg false r_.2.1)),(2,some (Blk.row Zf false r_.2.2.1)),(3,some (Blk.row Za true r_.2.2.2.1)),(4,some (Blk.row Ze true r_.2.2.2.2))],5,[0]⟩:St))]
def s199_0:SS:=⟨[(0,(.one (.bp 0 0)))],[(.box Zk q12),(.row Zg false),(.row Zf false),(.row Za true),(.row Ze true)],5,[0]⟩
noncomputable def l199_0:LE:=le0 2 s199_0 (fun st=>Z3 (((((br st 2).length:Nat):Int)-10).toNat+1) (bc st 0) (br st 1) (br st 2) (br st 3) (br st 4)) a199_0
noncomputable def L199:Loops:=⟨fun k=>(look [(2,[0])] k).getD [],fun _=>[],fun k=>(look [(2,[])] k).getD [],Zbe [l199_0],[],fun _=>[]⟩
theorem t199_0 (k_:Nat):∀(b0:V) (r1:List V) (r2:List V) (r3:List V) (r4:List V),Agr id (pk0 a199_0) (Z3 k_ b0 r1 r2 r3 r4) (ZJ c199 L199 (lpB Tryz.f199 0) k_ (s199_0.mk' (stv [] [bx b0,rb r1,rb r2,rb r3,rb r4]))):=by
 induction k_ with
 | zero=>exact fun _ _ _ _ _=>g0
 | succ k_ ih=>exact fun _ _ _ _ _=>gA (g1 (g1 (g2 fun _=>ih _ _ _ _ _) g0) g4) (by kernel_rfl)
theorem o199:ZC c199 L199 (ZM Tryz.f199):=GoodAll.ok (l:=[l199_0]) (.cons 0 (by kernel_rfl) (gd0 (fun st=>((((br st 2).length:Nat):Int)-10).toNat+1) (fun st=>t199_0 _ _ _ _ _ _) fun st=>by kernel_rfl) (.nil)) rfl
noncomputable def e199:En Tryz.prog tab:=enP base [e232s,Zf1] false [] Tryz.func199 (L:=L199) o199 [(.rf Zk q29),(.one (.int .i64))] (fun a=>Zbv ((rd a 0).unbox) ((rd a 1).I)) (fun r_:V=>((V.tup []),[(V.rf Zk (l30 r_))])) [] [q28] [none,none] false (by kernel_rfl) fun _=>gA (g1 (g1 (g2 fun _=>g2 fun _=>g4) g0) g0) (by kernel_rfl)
noncomputable def c200:Cfg:=Z5 (P:=Tryz.prog) (tab:=tab) [e83,e233,e199] false []
def a200_0 (r_:V×List V×List V×List V×List V):List (Ex×St):=[((Ex.exit 0),(⟨[],[(0,some (Blk.box Zk (l11 r_.1))),(1,some (Blk.row Zg false r_.2.1)),(2,some (Blk.row Zf false r_.2.2.1)),(3,some (Blk.row Za true r_.2.2.2.1)),(4,some (Blk.row Ze true r_.2.2.2.2))],5,[0]⟩:St))]
def s200_0:SS:=⟨[(0,(.one (.bp 0 0))),(1,(.one (.int .i64))),(6,(.one .bool)),(7,(.one (.int .i64)))],[(.box Zk q12),(.row Zg false),(.row Zf false),(.row Za true),(.row Ze true)],5,[0]⟩
noncomputable def l200_0:LE:=le0 7 s200_0 (fun st=>Z7 (((((br st 1).length:Nat):Int)-((sv st 3).I)).toNat+1) ((sv st 1).I) ((sv st 2).B) ((sv st 3).I) (bc st 0) (br st 1) (br st 2) (br st 3) (br st 4)) a200_0
noncomputable def L200:Loops:=⟨fun k=>(look [(7,[0,1,6,7])] k).getD [],fun _=>[],fun k=>(look [(7,[])] k).getD [],Zbe [l200_0],[],fun _=>[]⟩
set_option maxRecDepth 100000 in
theorem t200_0 (k_:Nat):∀(id1:Int) (remove6:Bool) (k7:Int) (b0:V) (r1:List V) (r2:List V) (r3:List V) (r4:List V),Agr id (pk0 a200_0) (Z7 k_ id1 remove6 k7 b0 r1 r2 r3 r4) (ZJ c200 L200 (lpB Tryz.f200 0) k_ (s200_0.mk' (stv [.dead,vi id1,V.bool remove6,vi k7] [bx b0,rb r1,rb r2,rb r3,rb r4]))):=by
 induction k_ with
 | zero=>exact fun _ _ _ _ _ _ _ _=>g0
 | succ k_ ih=>exact fun _ _ _ _ _ _ _ _=>gA (g1 (g1 (g1 (ih _ _ _ _ _ _ _ _) (g1 (g2 fun _=>ih _ _ _ _ _ _ _ _) (g1 (g1 (ih _ _ _ _ _ _ _ _) g0) g0))) g0) g4) (by kernel_rfl)
theorem o200:ZC c200 L200 (ZM Tryz.f200):=GoodAll.ok (l:=[l200_0]) (.cons 0 (by kernel_rfl) (gd0 (fun st=>((((br st 1).length:Nat):Int)-((sv st 3).I)).toNat+1) (fun st=>t200_0 _ _ _ _ _ _ _ _ _) fun st=>by kernel_rfl) (.nil)) rfl
noncomputable def e200:En Tryz.prog tab:=enP base [e83,e233,e199] false [] Tryz.func200 (L:=L200) o200 [(.rf Zk q29),(.one (.int .i64))] (fun a=>ZbM ((rd a 0).unbox) ((rd a 1).I)) (fun r_:Int×V=>((vi r_.1),[(V.rf Zk (l30 r_.2))])) [] [q28] [none,none] false (by kernel_rfl) fun _=>gA (g2 fun _=>g1 g4 (g1 (g2 fun _=>g2 fun _=>g4) g0)) (by kernel_rfl)
end Go.Eng.R
open Go Go.Eng Go.Proofs
namespace Go.Eng.R
set_option maxRecDepth 100000 in
noncomputable def e152:En Tryz.prog tab:=enP base [e85,e198,e199,e200,e83] false [] Tryz.func152 Zag [(.rf Zk q29),(.agg q4)] (fun a=>Zbn ((rd a 0).unbox) (rd a 1)) (fun r_:Int×V=>((vi r_.1),[(V.rf Zk (l30 r_.2))])) [] [q28] [none,none] false (by kernel_rfl) fun _=>gA (g2 fun _=>g1 (g1 (g1 (g1 (g1 g4 (g2 fun _=>g1 g4 g4)) (g2 fun _=>g1 g4 g4)) g0) (g1 (g1 g4 (g2 fun _=>g1 g4 g4)) (g2 fun _=>g1 g4 g4))) (g1 (g1 (g1 (g1 (g1 g4 (g2 fun _=>g1 g4 g4)) (g2 fun _=>g1 g4 g4)) g0) (g1 (g1 g4 (g2 fun _=>g1 g4 g4)) (g2 fun _=>g1 g4 g4))) (g1 (g1 g4 (g2 fun _=>g4)) (g1 (g1 g4 (g1 g4 g0)) (g1 (g2 fun _=>g4) (g1 (g2 fun _=>g1 g4 (g1 (g1 (g1 (g1 (g1 g4 (g2 fun _=>g1 g4 (g1 g4 g0))) g0) (g2 fun _=>g1 g4 (g1 g4 g0))) g0) (g2 fun _=>g1 g4 (g1 g4 g0)))) (g1 (g1 g4 (g1 (g1 g4 (g1 (g1 g4 g0) g0)) g0)) g4))))))) (by kernel_rfl)
set_option maxRecDepth 100000 in
noncomputable def e74:En Tryz.prog tab:=enP base [e151,e152,e153] false [] Tryz.func74 Zag [(.rf Zk q29),(.agg q5)] (fun a=>Za4 ((rd a 0).unbox) (rd a 1)) (fun r_:V×V=>((ZA r_.1),[(V.rf Zk (l30 r_.2))])) [] [q28] [none,none] false (by kernel_rfl) fun _=>gA (g1 g4 (g2 fun _=>g1 (g1 (g1 (g1 g4 g0) (g1 (g1 (g1 g4 (g2 fun _=>g1 (g1 g4 g0) (g2 fun _=>g4))) g0) (g2 fun _=>g1 (g1 g4 g0) (g2 fun _=>g4)))) g0) (g1 (g1 (g1 g4 (g2 fun _=>g1 (g1 g4 g0) (g2 fun _=>g4))) g0) (g2 fun _=>g1 (g1 g4 g0) (g2 fun _=>g4))))) (by kernel_rfl)
noncomputable def e31:En Tryz.prog tab:=enP base [e29,e62,e63,e74] false [] Tryz.func31 Zag [(.agg q9),(.agg q5)] (fun a=>Zf0 (rd a 0) (rd a 1)) (fun r_:V×V=>((V.tup [(h27 r_.1),(ZA r_.2)]),[])) [q28] [] [none,none] false (by kernel_rfl) fun _=>gA (g2 fun _=>g1 g4 (g2 fun _=>g1 g4 (g1 g4 (g2 fun _=>g2 fun _=>g4)))) (by kernel_rfl)
noncomputable def e53:En Tryz.prog tab:=enT base [] false [] Tryz.func53 Zag [(.one (.inl Zc)),(.one (.inl Zc))] (fun a=>Zcy ((rd a 0).L) ((rd a 1).L)) (fun r_:Bool=>((V.bool r_),[])) [] [] [some Zc,some Zc] false (by kernel_rfl) fun _=>gT g7 (by kernel_rfl)
noncomputable def c32:Cfg:=Z5 (P:=Tryz.prog) (tab:=tab) [e53] false []
def a32_0 (r_:Nat×Bool×V×V):List (Ex×St):=[(Ex.ret,(⟨[(2,(V.bp 0 0)),(3,(V.bp 1 0)),(4,(V.bool r_.2.1))],[(0,some (Blk.box Zk (l21 r_.2.2.1))),(1,some (Blk.box Zk (l21 r_.2.2.2)))],2,[]⟩:St)),((Ex.exit 0),(⟨[(2,(V.bp 0 0)),(3,(V.bp 1 0)),(4,V.dead)],[(0,some (Blk.box Zk (l21 r_.2.2.1))),(1,some (Blk.box Zk (l21 r_.2.2.2)))],2,[]⟩:St))]
def s32_0:SS:=⟨[(2,(.one (.bp 0 0))),(3,(.one (.bp 1 0))),(5,(.one (.int .i64)))],[(.box Zk q9),(.box Zk q9)],2,[]⟩
noncomputable def l32_0:LE:=le1 4 s32_0 (fun st=>Zay (((((gl (bc st 0) 1).length:Nat):Int)-((sv st 2).I)).toNat+1) ((sv st 2).I) (bc st 0) (bc st 1)) a32_0
def a32_1 (r_:Nat×Bool×V×V):List (Ex×St):=[(Ex.ret,(⟨[(2,(V.bp 0 0)),(3,(V.bp 1 0)),(4,(V.bool r_.2.1))],[(0,some (Blk.box Zk (l21 r_.2.2.1))),(1,some (Blk.box Zk (l21 r_.2.2.2)))],2,[]⟩:St)),((Ex.exit 2),(⟨[(2,(V.bp 0 0)),(3,(V.bp 1 0)),(4,V.dead)],[(0,some (Blk.box Zk (l21 r_.2.2.1))),(1,some (Blk.box Zk (l21 r_.2.2.2)))],2,[]⟩:St))]
def s32_1:SS:=⟨[(2,(.one (.bp 0 0))),(3,(.one (.bp 1 0))),(8,(.one (.int .i64)))],[(.box Zk q9),(.box Zk q9)],2,[]⟩
noncomputable def l32_1:LE:=le1 10 s32_1 (fun st=>Zao (((((gl (bc st 0) 2).length:Nat):Int)-((sv st 2).I)).toNat+1) ((sv st 2).I) (bc st 0) (bc st 1)) a32_1
def a32_2 (r_:Nat×Bool×V×V):List (Ex×St):=[(Ex.ret,(⟨[(2,(V.bp 0 0)),(3,(V.bp 1 0)),(4,(V.bool r_.2.1))],[(0,some (Blk.box Zk (l21 r_.2.2.1))),(1,some (Blk.box Zk (l21 r_.2.2.2)))],2,[]⟩:St)),((Ex.exit 4),(⟨[(2,(V.bp 0 0)),(3,(V.bp 1 0)),(4,V.dead)],[(0,some (Blk.box Zk (l21 r_.2.2.1))),(1,some (Blk.box Zk (l21 r_.2.2.2)))],2,[]⟩:St))]
def s32_2:SS:=⟨[(2,(.one (.bp 0 0))),(3,(.one (.bp 1 0))),(9,(.one (.int .i64)))],[(.box Zk q9),(.box Zk q9)],2,[]⟩
noncomputable def l32_2:LE:=le1 15 s32_2 (fun st=>Zap (((((gl (bc st 0) 4).length:Nat):Int)-((sv st 2).I)).toNat+1) ((sv st 2).I) (bc st 0) (bc st 1)) a32_2
def a32_3 (r_:Nat×Bool):List (Ex×St):=[(Ex.ret,(⟨[(4,(V.bool r_.2))],[],0,[]⟩:St)),((Ex.exit 6),(⟨[(4,V.dead)],[],0,[]⟩:St))]
def s32_3:SS:=⟨[(2,(.one (.bp 0 0))),(3,(.one (.bp 1 0))),(10,(.one (.int .i64)))],[(.box Zk q9),(.box Zk q9)],2,[]⟩
noncomputable def l32_3:LE:=le1 20 s32_3 (fun st=>Zaq (((((gl (bc st 0) 5).length:Nat):Int)-((sv st 2).I)).toNat+1) ((sv st 2).I) (bc st 0) (bc st 1)) a32_3
noncomputable def L32:Loops:=⟨fun k=>(look [(4,[2,3,5]),(10,[2,3,8]),(15,[2,3,9]),(20,[2,3,10])] k).getD [],fun _=>[],fun k=>(look [(4,[2,3,4]),(10,[2,3,4]),(15,[2,3,4]),(20,[4])] k).getD [],Zbe [l32_0,l32_1,l32_2,l32_3],[],fun _=>[]⟩
set_option maxRecDepth 100000 in
theorem t32_0 (k_:Nat):∀(i5:Int) (b0:V) (b1:V),Agr id (pk1 a32_0) (Zay k_ i5 b0 b1) (ZJ c32 L32 (lpB Tryz.f32 0) k_ (s32_0.mk' (stv [.dead, .dead,vi i5] [bx b0,bx b1]))):=by
 induction k_ with
 | zero=>exact fun _ _ _=>g0
 | succ k_ ih=>exact fun _ _ _=>gA (g1 (g1 (g1 (g1 g4 (g1 g4 (g1 g4 (g1 g4 (ih _ _ _))))) g0) g0) g4) (by kernel_rfl)
set_option maxRecDepth 100000 in
theorem t32_1 (k_:Nat):∀(i8:Int) (b0:V) (b1:V),Agr id (pk1 a32_1) (Zao k_ i8 b0 b1) (ZJ c32 L32 (lpB Tryz.f32 1) k_ (s32_1.mk' (stv [.dead, .dead,vi i8] [bx b0,bx b1]))):=by
 induction k_ with
 | zero=>exact fun _ _ _=>g0
 | succ k_ ih=>exact fun _ _ _=>gA (g1 (g1 (g1 (g1 g4 (g1 (g1 (g1 g4 (ih _ _ _)) g0) g0)) g0) g0) g4) (by kernel_rfl)
theorem t32_2 (k_:Nat):∀(i9:Int) (b0:V) (b1:V),Agr id (pk1 a32_2) (Zap k_ i9 b0 b1) (ZJ c32 L32 (lpB Tryz.f32 2) k_ (s32_2.mk' (stv [.dead, .dead,vi i9] [bx b0,bx b1]))):=by
 induction k_ with
 | zero=>exact fun _ _ _=>g0
 | succ k_ ih=>exact fun _ _ _=>gA (g1 (g1 (g1 (g1 g4 (ih _ _ _)) g0) g0) g4) (by kernel_rfl)
theorem t32_3 (k_:Nat):∀(i10:Int) (b0:V) (b1:V),Agr id (pk1 a32_3) (Zaq k_ i10 b0 b1) (ZJ c32 L32 (lpB Tryz.f32 3) k_ (s32_3.mk' (stv [.dead, .dead,vi i10] [bx b0,bx b1]))):=by
 induction k_ with
 | zero=>exact fun _ _ _=>g0
 | succ k_ ih=>exact fun _ _ _=>gA (g1 (g1 (g1 (g1 g4 (ih _ _ _)) g0) g0) g4) (by kernel_rfl)
theorem o32:ZC c32 L32 (ZM Tryz.f32):=GoodAll.ok (l:=[l32_0,l32_1,l32_2,l32_3]) (.cons 0 (by kernel_rfl) (gd1 (fun st=>((((gl (bc st 0) 1).length:Nat):Int)-((sv st 2).I)).toNat+1) (fun st=>t32_0 _ _ _ _) fun st=>by kernel_rfl) (.cons 1 (by kernel_rfl) (gd1 (fun st=>((((gl (bc st 0) 2).length:Nat):Int)-((sv st 2).I)).toNat+1) (fun st=>t32_1 _ _ _ _) fun st=>by kernel_rfl) (.cons 2 (by kernel_rfl) (gd1 (fun st=>((((gl (bc st 0) 4).length:Nat):Int)-((sv st 2).I)).toNat+1) (fun st=>t32_2 _ _ _ _) fun st=>by kernel_rfl) (.cons 3 (by kernel_rfl) (gd1 (fun st=>((((gl (bc st 0) 5).length:Nat):Int)-((sv st 2).I)).toNat+1) (fun st=>t32_3 _ _ _ _) fun st=>by kernel_rfl) (.nil))))) rfl
set_option maxRecDepth 100000 in
noncomputable def e32:En Tryz.prog tab:=enP base [e53] false [] Tryz.func32 (L:=L32) o32 [(.agg q9),(.agg q9)] (fun a=>Zcz (rd a 0) (rd a 1)) (fun r_:Bool=>((V.bool r_),[])) [] [] [none,none] false (by kernel_rfl) fun _=>gA (g1 g4 (g1 g4 (g1 g4 (g1 g4 (g1 g4 (g1 g4 (g2 fun _=>g1 g4 (g2 fun _=>g1 g4 (g2 fun _=>g1 g4 (g2 fun _=>g1 g4 g4)))))))))) (by kernel_rfl)
noncomputable def e34:En Tryz.prog tab:=enB Tryz.func34 (by kernel_rfl) alive34
noncomputable def e44:En Tryz.prog tab:=enP base [e77,e27,e114] false [] Tryz.func44 Zag [(.one (.inl Zc))] (fun a=>ZdZ ((rd a 0).L)) (fun r_:List V×Int=>((V.tup [(V.rr ZaU false r_.1),(vi r_.2)]),[])) [[(.rr ZaU false)]] [] [some Zc] false (by kernel_rfl) fun _=>gA (g2 fun _=>g2 fun _=>g2 fun _=>g4) (by kernel_rfl)
noncomputable def c199v4:Cfg:=Z5 (P:=Tryz.prog) (tab:=tab) [e232,Zf1] false []
def Zm5 (r_:V×List V×List V×List V×List V×List V):List (Ex×St):=[((Ex.exit 0),(⟨[],[(0,some (Blk.box ZE (l33 r_.1))),(1,some (Blk.row Zg true r_.2.1)),(2,some (Blk.row Zf false r_.2.2.1)),(3,some (Blk.row Za true r_.2.2.2.1)),(4,some (Blk.row Ze true r_.2.2.2.2.1)),(5,some (Blk.row Zi true r_.2.2.2.2.2))],6,[0]⟩:St))]
def s199v4_0:SS:=⟨[(0,(.one (.bp 0 0)))],[(.box ZE q34),(.row Zg true),(.row Zf false),(.row Za true),(.row Ze true),(.row Zi true)],6,[0]⟩
noncomputable def Zm6:LE:=le0 2 s199v4_0 (fun st=>ZaD (((((br st 2).length:Nat):Int)-10).toNat+1) (bc st 0) (br st 1) (br st 2) (br st 3) (br st 4) (br st 5)) Zm5
noncomputable def Zm7:Loops:=⟨fun k=>(look [(2,[0])] k).getD [],fun _=>[],fun k=>(look [(2,[])] k).getD [],Zbe [Zm6],[],fun _=>[]⟩
theorem t199v4_0 (k_:Nat):∀(b0:V) (r1:List V) (r2:List V) (r3:List V) (r4:List V) (r5:List V),Agr id (pk0 Zm5) (ZaD k_ b0 r1 r2 r3 r4 r5) (ZJ c199v4 Zm7 (lpB Tryz.f199 0) k_ (s199v4_0.mk' (stv [] [bx b0,rb r1,rb r2,rb r3,rb r4,rb r5]))):=by
 induction k_ with
 | zero=>exact fun _ _ _ _ _ _=>g0
 | succ k_ ih=>exact fun _ _ _ _ _ _=>gA (g1 (g1 (g2 fun _=>ih _ _ _ _ _ _) g0) g4) (by kernel_rfl)
theorem o199v4:ZC c199v4 Zm7 (ZM Tryz.f199):=GoodAll.ok (l:=[Zm6]) (.cons 0 (by kernel_rfl) (gd0 (fun st=>((((br st 2).length:Nat):Int)-10).toNat+1) (fun st=>t199v4_0 _ _ _ _ _ _ _) fun st=>by kernel_rfl) (.nil)) rfl
noncomputable def Zm8:En Tryz.prog tab:=enP base [e232,Zf1] false [] Tryz.func199 (L:=Zm7) o199v4 [(.rf ZE q35),(.one (.int .i64))] (fun a=>ZbN ((rd a 0).unbox) ((rd a 1).I)) (fun r_:V=>((V.tup []),[(V.rf ZE (l36 r_))])) [] [q37] [none,none] false (by kernel_rfl) fun _=>gA (g1 (g1 (g2 fun _=>g2 fun _=>g4) g0) g0) (by kernel_rfl)
set_option maxRecDepth 100000 in
noncomputable def e198v4:En Tryz.prog tab:=enP base [e85,e127,e230,e86,Zf1] false [] Tryz.func198 Zag [(.rf ZE q35),(.one (.inl Zc)),(.one (.inl Zc))] (fun a=>ZX ((rd a 0).unbox) ((rd a 1).L) ((rd a 2).L)) (fun r_:Bool×V=>((V.bool r_.1),[(V.rf ZE (l36 r_.2))])) [] [q37] [none,some Zc,some Zc] false (by kernel_rfl) fun _=>gA (g2 fun _=>g1 (g1 g4 (g2 fun _=>g2 fun _=>g2 fun _=>g1 (g2 fun _=>g2 fun _=>g1 (g1 g4 g0) g0) (g2 fun _=>g1 (g1 g4 g0) g0))) (g2 fun _=>g1 (g1 g4 g0) g0)) (by kernel_rfl)
noncomputable def c200v4:Cfg:=Z5 (P:=Tryz.prog) (tab:=tab) [e83,e233,Zm8] false []
def Zm9 (r_:V×List V×List V×List V×List V×List V):List (Ex×St):=[((Ex.exit 0),(⟨[],[(0,some (Blk.box ZE (l33 r_.1))),(1,some (Blk.row Zg true r_.2.1)),(2,some (Blk.row Zf false r_.2.2.1)),(3,some (Blk.row Za true r_.2.2.2.1)),(4,some (Blk.row Ze true r_.2.2.2.2.1)),(5,some (Blk.row Zi true r_.2.2.2.2.2))],6,[0]⟩:St))]
def s200v4_0:SS:=⟨[(0,(.one (.bp 0 0))),(1,(.one (.int .i64))),(6,(.one .bool)),(7,(.one (.int .i64)))],[(.box ZE q34),(.row Zg true),(.row Zf false),(.row Za true),(.row Ze true),(.row Zi true)],6,[0]⟩
noncomputable def Zna:LE:=le0 7 s200v4_0 (fun st=>Zam (((((br st 1).length:Nat):Int)-((sv st 3).I)).toNat+1) ((sv st 1).I) ((sv st 2).B) ((sv st 3).I) (bc st 0) (br st 1) (br st 2) (br st 3) (br st 4) (br st 5)) Zm9
noncomputable def Znb:Loops:=⟨fun k=>(look [(7,[0,1,6,7])] k).getD [],fun _=>[],fun k=>(look [(7,[])] k).getD [],Zbe [Zna],[],fun _=>[]⟩
set_option maxRecDepth 100000 in
theorem t200v4_0 (k_:Nat):∀(id1:Int) (remove6:Bool) (k7:Int) (b0:V) (r1:List V) (r2:List V) (r3:List V) (r4:List V) (r5:List V),Agr id (pk0 Zm9) (Zam k_ id1 remove6 k7 b0 r1 r2 r3 r4 r5) (ZJ c200v4 Znb (lpB Tryz.f200 0) k_ (s200v4_0.mk' (stv [.dead,vi id1,V.bool remove6,vi k7] [bx b0,rb r1,rb r2,rb r3,rb r4,rb r5]))):=by
 induction k_ with
 | zero=>exact fun _ _ _ _ _ _ _ _ _=>g0
 | succ k_ ih=>exact fun _ _ _ _ _ _ _ _ _=>gA (g1 (g1 (g1 (ih _ _ _ _ _ _ _ _ _) (g1 (g2 fun _=>ih _ _ _ _ _ _ _ _ _) (g1 (g1 (ih _ _ _ _ _ _ _ _ _) g0) g0))) g0) g4) (by kernel_rfl)
theorem o200v4:ZC c200v4 Znb (ZM Tryz.f200):=GoodAll.ok (l:=[Zna]) (.cons 0 (by kernel_rfl) (gd0 (fun st=>((((br st 1).length:Nat):Int)-((sv st 3).I)).toNat+1) (fun st=>t200v4_0 _ _ _ _ _ _ _ _ _ _) fun st=>by kernel_rfl) (.nil)) rfl
noncomputable def e200v4:En Tryz.prog tab:=enP base [e83,e233,Zm8] false [] Tryz.func200 (L:=Znb) o200v4 [(.rf ZE q35),(.one (.int .i64))] (fun a=>Zc2 ((rd a 0).unbox) ((rd a 1).I)) (fun r_:Int×V=>((vi r_.1),[(V.rf ZE (l36 r_.2))])) [] [q37] [none,none] false (by kernel_rfl) fun _=>gA (g2 fun _=>g1 g4 (g1 (g2 fun _=>g2 fun _=>g4) g0)) (by kernel_rfl)
set_option maxRecDepth 100000 in
noncomputable def e152v4:En Tryz.prog tab:=enP base [e85,e198v4,Zm8,e200v4,e83] false [] Tryz.func152 Zag [(.rf ZE q35),(.agg q4)] (fun a=>ZbD ((rd a 0).unbox) (rd a 1)) (fun r_:Int×V=>((vi r_.1),[(V.rf ZE (l36 r_.2))])) [] [q37] [none,none] false (by kernel_rfl) fun _=>gA (g2 fun _=>g1 (g1 (g1 (g1 (g1 g4 (g2 fun _=>g1 g4 g4)) (g2 fun _=>g1 g4 g4)) g0) (g1 (g1 g4 (g2 fun _=>g1 g4 g4)) (g2 fun _=>g1 g4 g4))) (g1 (g1 (g1 (g1 (g1 g4 (g2 fun _=>g1 g4 g4)) (g2 fun _=>g1 g4 g4)) g0) (g1 (g1 g4 (g2 fun _=>g1 g4 g4)) (g2 fun _=>g1 g4 g4))) (g1 (g1 g4 (g2 fun _=>g4)) (g1 (g1 g4 (g1 g4 g0)) (g1 (g2 fun _=>g4) (g1 (g2 fun _=>g1 g4 (g1 (g1 (g1 (g1 (g1 g4 (g2 fun _=>g1 g4 (g1 g4 g0))) g0) (g2 fun _=>g1 g4 (g1 g4 g0))) g0) (g2 fun _=>g1 g4 (g1 g4 g0)))) (g1 (g1 g4 (g1 (g1 g4 (g1 (g1 g4 g0) g0)) g0)) g4))))))) (by kernel_rfl)
set_option maxRecDepth 100000 in
noncomputable def e74v4:En Tryz.prog tab:=enP base [e151,e152v4,e153] false [] Tryz.func74 Zag [(.rf ZE q35),(.agg q5)] (fun a=>ZbW ((rd a 0).unbox) (rd a 1)) (fun r_:V×V=>((ZA r_.1),[(V.rf ZE (l36 r_.2))])) [] [q37] [none,none] false (by kernel_rfl) fun _=>gA (g1 g4 (g2 fun _=>g1 (g1 (g1 (g1 g4 g0) (g1 (g1 (g1 g4 (g2 fun _=>g1 (g1 g4 g0) (g2 fun _=>g4))) g0) (g2 fun _=>g1 (g1 g4 g0) (g2 fun _=>g4)))) g0) (g1 (g1 (g1 g4 (g2 fun _=>g1 (g1 g4 g0) (g2 fun _=>g4))) g0) (g2 fun _=>g1 (g1 g4 g0) (g2 fun _=>g4))))) (by kernel_rfl)
noncomputable def e147:En Tryz.prog tab:=enP base [e127] false [] Tryz.func147 Zag [(.agg q4)] (fun a=>Zfr (rd a 0)) (fun r_:V=>((h38 r_),[])) [q39] [] [none] false (by kernel_rfl) fun _=>gA (g2 fun _=>g2 fun _=>g4) (by kernel_rfl)
noncomputable def e64:En Tryz.prog tab:=enP base [e147] false [] Tryz.func64 Zag [(.agg q5)] (fun a=>ZcI (rd a 0)) (fun r_:V=>((h6 r_),[])) [q7] [] [none] false (by kernel_rfl) fun _=>gA (g2 fun _=>g4) (by kernel_rfl)
noncomputable def c24:Cfg:=Z5 (P:=Tryz.prog) (tab:=tab) [e73,e62,e74v4,e64] false []
def a24_0 (r_:Nat×Bool×V×V×List V×List V×List V×List V×List V×List V×List V×List V×List V×List V):List (Ex×St):=[(Ex.ret,(⟨[(4,(V.bp 0 0)),(5,(V.bool r_.2.1)),(6,(V.bp 1 0))],[(0,some (Blk.box ZE (l40 r_.2.2.1))),(1,some (Blk.box ZE (l41 r_.2.2.2.1))),(2,some (Blk.row Zg true r_.2.2.2.2.1)),(3,some (Blk.row Zf false r_.2.2.2.2.2.1)),(4,some (Blk.row Za true r_.2.2.2.2.2.2.1)),(5,some (Blk.row Ze true r_.2.2.2.2.2.2.2.1)),(6,some (Blk.row Zi true r_.2.2.2.2.2.2.2.2.1))],7,[]⟩:St)),((Ex.exit 0),(⟨[(4,(V.bp 0 0)),(5,V.dead),(6,(V.bp 1 0))],[(0,some (Blk.box ZE (l41 r_.2.2.1))),(1,some (Blk.box ZE (l42 r_.2.2.2.1))),(2,some (Blk.row Zg true r_.2.2.2.2.1)),(3,some (Blk.row Zf true r_.2.2.2.2.2.1)),(4,some (Blk.row Za true r_.2.2.2.2.2.2.1)),(5,some (Blk.row Ze true r_.2.2.2.2.2.2.2.1)),(6,some (Blk.row Zi true r_.2.2.2.2.2.2.2.2.1)),(7,some (Blk.row Zg true r_.2.2.2.2.2.2.2.2.2.1)),(8,some (Blk.row Zf false r_.2.2.2.2.2.2.2.2.2.2.1)),(9,some (Blk.row Za true r_.2.2.2.2.2.2.2.2.2.2.2.1)),(10,some (Blk.row Ze true r_.2.2.2.2.2.2.2.2.2.2.2.2.1)),(11,some (Blk.row Zi true r_.2.2.2.2.2.2.2.2.2.2.2.2.2))],12,[]⟩:St))]
def s24_0:SS:=⟨[(1,(.one (.int .i64))),(4,(.one (.bp 0 0))),(6,(.one (.bp 1 0))),(20,(.one (.inl ZaU))),(21,(.one (.int .i64))),(22,(.one (.int .i64)))],[(.box ZE q43),(.box ZE q44),(.row Zg true),(.row Zf true),(.row Za true),(.row Ze true),(.row Zi true),(.row Zg true),(.row Zf false),(.row Za true),(.row Ze true),(.row Zi true)],12,[]⟩
noncomputable def l24_0:LE:=le1 5 s24_0 (fun st=>Zac ((((sv st 4).I)-((sv st 5).I)).toNat+1) ((sv st 0).I) ((sv st 3).L) ((sv st 4).I) ((sv st 5).I) (bc st 0) (bc st 1) (br st 2) (br st 3) (br st 4) (br st 5) (br st 6) (br st 7) (br st 8) (br st 9) (br st 10) (br st 11)) a24_0
noncomputable def L24:Loops:=⟨fun k=>(look [(5,[1,4,6,20,21,22])] k).getD [],fun k=>(look [(5,[⟨4,some 1,true⟩,⟨4,some 2,true⟩,⟨4,some 4,true⟩,⟨4,some 5,true⟩,⟨4,some 6,true⟩,⟨6,some 1,true⟩,⟨6,some 4,true⟩,⟨6,some 5,true⟩,⟨6,some 6,true⟩,⟨6,some 2,false⟩])] k).getD [],fun k=>(look [(5,[4,5,6])] k).getD [],Zbe [l24_0],[],fun _=>[]⟩
set_option maxRecDepth 100000 in
theorem t24_0 (k_:Nat):∀(k1:Int) (v20:List V) (v21:Int) (v22:Int) (b0:V) (b1:V) (r2:List V) (r3:List V) (r4:List V) (r5:List V) (r6:List V) (r7:List V) (r8:List V) (r9:List V) (r10:List V) (r11:List V),Agr id (pk1 a24_0) (Zac k_ k1 v20 v21 v22 b0 b1 r2 r3 r4 r5 r6 r7 r8 r9 r10 r11) (ZJ c24 L24 (lpB Tryz.f24 0) k_ (s24_0.mk' (stv [vi k1, .dead, .dead,V.inl 0 v20,vi v21,vi v22] [bx b0,bx b1,rb r2,rb r3,rb r4,rb r5,rb r6,rb r7,rb r8,rb r9,rb r10,rb r11]))):=by
 induction k_ with
 | zero=>exact fun _ _ _ _ _ _ _ _ _ _ _ _ _ _ _ _=>g0
 | succ k_ ih=>exact fun _ _ _ _ _ _ _ _ _ _ _ _ _ _ _ _=>gA (g1 (g1 (g2 fun _=>g1 g4 (g1 (g2 fun _=>ih _ _ _ _ _ _ _ _ _ _ _ _ _ _ _ _) (g2 fun _=>g1 (ih _ _ _ _ _ _ _ _ _ _ _ _ _ _ _ _) g0))) g0) g4) (by kernel_rfl)
theorem o24:ZC c24 L24 (ZM Tryz.f24):=GoodAll.ok (l:=[l24_0]) (.cons 0 (by kernel_rfl) (gd1 (fun st=>(((sv st 4).I)-((sv st 5).I)).toNat+1) (fun st=>t24_0 _ _ _ _ _ _ _ _ _ _ _ _ _ _ _ _ _) fun st=>by kernel_rfl) (.nil)) rfl
noncomputable def e24:En Tryz.prog tab:=enP base [e73,e62,e74v4,e64] false [] Tryz.func24 (L:=L24) o24 [(.one (.inl ZaU)),(.one (.int .i64))] (fun a=>Zeq ((rd a 0).L) ((rd a 1).I)) (fun r_:V×Bool=>((V.tup [(h45 r_.1),(V.bool r_.2)]),[])) [q37] [] [some ZaU,none] false (by kernel_rfl) fun _=>gA (g1 g4 (g1 g4 (g2 fun _=>g1 g4 g4))) (by kernel_rfl)
noncomputable def e116:En Tryz.prog tab:=enP base [e62] false [] Tryz.func116 Zag [(.agg q5)] (fun a=>ZfN (rd a 0)) (fun r_:Bool=>((V.bool r_),[])) [] [] [none] false (by kernel_rfl) fun _=>gA (g2 fun _=>g4) (by kernel_rfl)
noncomputable def c178:Cfg:=Z5 (P:=Tryz.prog) (tab:=tab) [e116] false []
def a178_0 (r_:Nat×Int):List (Ex×St):=[(Ex.ret,(⟨[(4,(vi r_.2))],[],0,[]⟩:St)),((Ex.exit 0),(⟨[(4,V.dead)],[],0,[]⟩:St))]
def s178_0:SS:=⟨[(0,(.one (.inl Zi))),(1,(.fn 116 [])),(7,(.one (.int .i64))),(8,(.one (.int .i64)))],[],0,[]⟩
noncomputable def l178_0:LE:=le1 2 s178_0 (fun st=>ZZ ((((sv st 2).I)-((sv st 3).I)).toNat+1) ((sv st 0).L) ((sv st 2).I) ((sv st 3).I)) a178_0
noncomputable def L178:Loops:=⟨fun k=>(look [(2,[0,1,7,8])] k).getD [],fun _=>[],fun k=>(look [(2,[4])] k).getD [],Zbe [l178_0],[],fun _=>[]⟩
theorem t178_0 (k_:Nat):∀(s0:List V) (v7:Int) (v8:Int),Agr id (pk1 a178_0) (ZZ k_ s0 v7 v8) (ZJ c178 L178 (lpB Tryz.f178 0) k_ (s178_0.mk' (stv [V.inl 0 s0,V.fn 0 [],vi v7,vi v8] []))):=by
 induction k_ with
 | zero=>exact fun _ _ _=>g0
 | succ k_ ih=>exact fun _ _ _=>gA (g1 (g1 (g2 fun _=>g1 g4 (ih _ _ _)) g0) g4) (by kernel_rfl)
theorem o178:ZC c178 L178 (ZM Tryz.f178):=GoodAll.ok (l:=[l178_0]) (.cons 0 (by kernel_rfl) (gd1 (fun st=>(((sv st 2).I)-((sv st 3).I)).toNat+1) (fun st=>t178_0 _ _ _ _) fun st=>by kernel_rfl) (.nil)) rfl
noncomputable def e178:En Tryz.prog tab:=enP base [e116] false [] Tryz.func178 (L:=L178) o178 [(.one (.inl Zi)),(.fn 116 [])] (fun a=>ZdG ((rd a 0).L)) (fun r_:Int=>((vi r_),[])) [] [] [some Zi,none] false (by kernel_rfl) fun _=>gA (g2 fun _=>g1 g4 g4) (by kernel_rfl)
noncomputable def e115:En Tryz.prog tab:=enP base [e178] false [] Tryz.func115 Zag [(.one (.inl Zi)),(.fn 116 [])] (fun a=>ZbV ((rd a 0).L)) (fun r_:Bool=>((V.bool r_),[])) [] [] [some Zi,none] false (by kernel_rfl) fun _=>gA (g2 fun _=>g4) (by kernel_rfl)
noncomputable def e45:En Tryz.prog tab:=enP base [e29,e115] false [] Tryz.func45 Zag [(.agg q46)] (fun a=>Zb8 (rd a 0)) (fun r_:Bool=>((V.bool r_),[])) [] [] [none] false (by kernel_rfl) fun _=>gA (g2 fun _=>g1 (g1 (g2 fun _=>g4) g4) g4) (by kernel_rfl)
noncomputable def c43:Cfg:=Z5 (P:=Tryz.prog) (tab:=tab) [e45,e63,e74] false []
def a43_0 (r_:V×V×List V×List V×List V×List V×List V×List V×List V×List V):List (Ex×St):=[((Ex.exit 0),(⟨[(2,(V.bp 0 0)),(4,(V.bp 1 0))],[(0,some (Blk.box Zk (l22 r_.1))),(1,some (Blk.box Zk (l23 r_.2.1))),(2,some (Blk.row Zg true r_.2.2.1)),(3,some (Blk.row Zf true r_.2.2.2.1)),(4,some (Blk.row Za true r_.2.2.2.2.1)),(5,some (Blk.row Ze true r_.2.2.2.2.2.1)),(6,some (Blk.row Zg false r_.2.2.2.2.2.2.1)),(7,some (Blk.row Zf false r_.2.2.2.2.2.2.2.1)),(8,some (Blk.row Za true r_.2.2.2.2.2.2.2.2.1)),(9,some (Blk.row Ze true r_.2.2.2.2.2.2.2.2.2))],10,[]⟩:St))]
def s43_0:SS:=⟨[(2,(.one (.bp 0 0))),(4,(.one (.bp 1 0))),(15,(.one (.inl Zi))),(16,(.one (.int .i64))),(17,(.one (.int .i64)))],[(.box Zk q24),(.box Zk q25),(.row Zg true),(.row Zf true),(.row Za true),(.row Ze true),(.row Zg false),(.row Zf false),(.row Za true),(.row Ze true)],10,[]⟩
noncomputable def l43_0:LE:=le0 5 s43_0 (fun st=>ZaV ((((sv st 3).I)-((sv st 4).I)).toNat+1) ((sv st 2).L) ((sv st 3).I) ((sv st 4).I) (bc st 0) (bc st 1) (br st 2) (br st 3) (br st 4) (br st 5) (br st 6) (br st 7) (br st 8) (br st 9)) a43_0
noncomputable def L43:Loops:=⟨fun k=>(look [(5,[2,4,15,16,17])] k).getD [],fun k=>(look [(5,[⟨2,some 1,true⟩,⟨2,some 2,true⟩,⟨2,some 4,true⟩,⟨2,some 5,true⟩])] k).getD [],fun k=>(look [(5,[2,4])] k).getD [],Zbe [l43_0],[],fun _=>[]⟩
theorem t43_0 (k_:Nat):∀(v15:List V) (v16:Int) (v17:Int) (b0:V) (b1:V) (r2:List V) (r3:List V) (r4:List V) (r5:List V) (r6:List V) (r7:List V) (r8:List V) (r9:List V),Agr id (pk0 a43_0) (ZaV k_ v15 v16 v17 b0 b1 r2 r3 r4 r5 r6 r7 r8 r9) (ZJ c43 L43 (lpB Tryz.f43 0) k_ (s43_0.mk' (stv [.dead, .dead,V.inl 0 v15,vi v16,vi v17] [bx b0,bx b1,rb r2,rb r3,rb r4,rb r5,rb r6,rb r7,rb r8,rb r9]))):=by
 induction k_ with
 | zero=>exact fun _ _ _ _ _ _ _ _ _ _ _ _ _=>g0
 | succ k_ ih=>exact fun _ _ _ _ _ _ _ _ _ _ _ _ _=>gA (g1 (g1 (g2 fun _=>ih _ _ _ _ _ _ _ _ _ _ _ _ _) g0) g4) (by kernel_rfl)
theorem o43:ZC c43 L43 (ZM Tryz.f43):=GoodAll.ok (l:=[l43_0]) (.cons 0 (by kernel_rfl) (gd0 (fun st=>(((sv st 3).I)-((sv st 4).I)).toNat+1) (fun st=>t43_0 _ _ _ _ _ _ _ _ _ _ _ _ _ _) fun st=>by kernel_rfl) (.nil)) rfl
noncomputable def e43:En Tryz.prog tab:=enP base [e45,e63,e74] false [] Tryz.func43 (L:=L43) o43 [(.agg q46)] (fun a=>Zd9 (rd a 0)) (fun r_:V×Bool=>((V.tup [(h27 r_.1),(V.bool r_.2)]),[])) [q28] [] [none] false (by kernel_rfl) fun _=>gA (g2 fun _=>g1 g4 (g2 fun _=>g2 fun _=>g4)) (by kernel_rfl)
noncomputable def c135:Cfg:=Z5 (P:=Tryz.prog) (tab:=tab) [] false []
def a135_0 (r_:Nat×Int):List (Ex×St):=[(Ex.ret,(⟨[(4,(vi r_.2))],[],0,[]⟩:St)),((Ex.exit 0),(⟨[(4,V.dead)],[],0,[]⟩:St))]
def s135_0:SS:=⟨[(1,(.one (.inl Zc))),(2,(.one (.bp 0 0))),(5,(.one (.int .i64)))],[(.box Zk q9)],1,[]⟩
noncomputable def l135_0:LE:=le1 2 s135_0 (fun st=>Zci (((((gl (bc st 0) 1).length:Nat):Int)-((sv st 2).I)).toNat+1) ((sv st 0).L) ((sv st 2).I) (bc st 0)) a135_0
noncomputable def L135:Loops:=⟨fun k=>(look [(2,[1,2,5])] k).getD [],fun _=>[],fun k=>(look [(2,[4])] k).getD [],Zbe [l135_0],[],fun _=>[]⟩
theorem t135_0 (k_:Nat):∀(key1:List V) (i5:Int) (b0:V),Agr id (pk1 a135_0) (Zci k_ key1 i5 b0) (ZJ c135 L135 (lpB Tryz.f135 0) k_ (s135_0.mk' (stv [V.inl 0 key1, .dead,vi i5] [bx b0]))):=by
 induction k_ with
 | zero=>exact fun _ _ _=>g0
 | succ k_ ih=>exact fun _ _ _=>gA (g1 (g1 (g1 g4 (ih _ _ _)) g0) g4) (by kernel_rfl)
theorem o135:ZC c135 L135 (ZM Tryz.f135):=GoodAll.ok (l:=[l135_0]) (.cons 0 (by kernel_rfl) (gd1 (fun st=>((((gl (bc st 0) 1).length:Nat):Int)-((sv st 2).I)).toNat+1) (fun st=>t135_0 _ _ _ _) fun st=>by kernel_rfl) (.nil)) rfl
noncomputable def e135:En Tryz.prog tab:=enP base [] false [] Tryz.func135 (L:=L135) o135 [(.agg q9),(.one (.inl Zc))] (fun a=>Zbq (rd a 0) ((rd a 1).L)) (fun r_:Int=>((vi r_),[])) [] [] [none,some Zc] false (by kernel_rfl) fun _=>gA (g2 fun _=>g1 g4 g4) (by kernel_rfl)
noncomputable def c136:Cfg:=Z5 (P:=Tryz.prog) (tab:=tab) [] false []
def a136_0 (r_:Nat×Int):List (Ex×St):=[(Ex.ret,(⟨[(4,(vi r_.2))],[],0,[]⟩:St)),((Ex.exit 0),(⟨[(4,V.dead)],[],0,[]⟩:St))]
def s136_0:SS:=⟨[(1,(.one (.inl Zc))),(2,(.one (.bp 0 0))),(5,(.one (.int .i64)))],[(.box Zk q9)],1,[]⟩
noncomputable def l136_0:LE:=le1 2 s136_0 (fun st=>ZbZ (((((gl (bc st 0) 2).length:Nat):Int)-((sv st 2).I)).toNat+1) ((sv st 0).L) ((sv st 2).I) (bc st 0)) a136_0
noncomputable def L136:Loops:=⟨fun k=>(look [(2,[1,2,5])] k).getD [],fun _=>[],fun k=>(look [(2,[4])] k).getD [],Zbe [l136_0],[],fun _=>[]⟩
theorem t136_0 (k_:Nat):∀(key1:List V) (i5:Int) (b0:V),Agr id (pk1 a136_0) (ZbZ k_ key1 i5 b0) (ZJ c136 L136 (lpB Tryz.f136 0) k_ (s136_0.mk' (stv [V.inl 0 key1, .dead,vi i5] [bx b0]))):=by
 induction k_ with
 | zero=>exact fun _ _ _=>g0
 | succ k_ ih=>exact fun _ _ _=>gA (g1 (g1 (g1 g4 (ih _ _ _)) g0) g4) (by kernel_rfl)
theorem o136:ZC c136 L136 (ZM Tryz.f136):=GoodAll.ok (l:=[l136_0]) (.cons 0 (by kernel_rfl) (gd1 (fun st=>((((gl (bc st 0) 2).length:Nat):Int)-((sv st 2).I)).toNat+1) (fun st=>t136_0 _ _ _ _) fun st=>by kernel_rfl) (.nil)) rfl
noncomputable def e136:En Tryz.prog tab:=enP base [] false [] Tryz.func136 (L:=L136) o136 [(.agg q9),(.one (.inl Zc))] (fun a=>Zer (rd a 0) ((rd a 1).L)) (fun r_:Int=>((vi r_),[])) [] [] [none,some Zc] false (by kernel_rfl) fun _=>gA (g2 fun _=>g1 g4 g4) (by kernel_rfl)
noncomputable def c134:Cfg:=Z5 (P:=Tryz.prog) (tab:=tab) [] false []
def a134_0 (r_:Nat×Int):List (Ex×St):=[(Ex.ret,(⟨[(4,(vi r_.2))],[],0,[]⟩:St)),((Ex.exit 0),(⟨[(4,V.dead)],[],0,[]⟩:St))]
def s134_0:SS:=⟨[(1,(.one (.int .i64))),(2,(.one (.bp 0 0))),(5,(.one (.int .i64)))],[(.box Zk q9)],1,[]⟩
noncomputable def l134_0:LE:=le1 2 s134_0 (fun st=>Zb0 (((((gl (bc st 0) 4).length:Nat):Int)-((sv st 2).I)).toNat+1) ((sv st 0).I) ((sv st 2).I) (bc st 0)) a134_0
noncomputable def L134:Loops:=⟨fun k=>(look [(2,[1,2,5])] k).getD [],fun _=>[],fun k=>(look [(2,[4])] k).getD [],Zbe [l134_0],[],fun _=>[]⟩
theorem t134_0 (k_:Nat):∀(id1:Int) (i5:Int) (b0:V),Agr id (pk1 a134_0) (Zb0 k_ id1 i5 b0) (ZJ c134 L134 (lpB Tryz.f134 0) k_ (s134_0.mk' (stv [vi id1, .dead,vi i5] [bx b0]))):=by
 induction k_ with
 | zero=>exact fun _ _ _=>g0
 | succ k_ ih=>exact fun _ _ _=>gA (g1 (g1 (g1 g4 (ih _ _ _)) g0) g4) (by kernel_rfl)
theorem o134:ZC c134 L134 (ZM Tryz.f134):=GoodAll.ok (l:=[l134_0]) (.cons 0 (by kernel_rfl) (gd1 (fun st=>((((gl (bc st 0) 4).length:Nat):Int)-((sv st 2).I)).toNat+1) (fun st=>t134_0 _ _ _ _) fun st=>by kernel_rfl) (.nil)) rfl
noncomputable def e134:En Tryz.prog tab:=enP base [] false [] Tryz.func134 (L:=L134) o134 [(.agg q9),(.one (.int .i64))] (fun a=>Zb9 (rd a 0) ((rd a 1).I)) (fun r_:Int=>((vi r_),[])) [] [] [none,none] false (by kernel_rfl) fun _=>gA (g2 fun _=>g1 g4 g4) (by kernel_rfl)
noncomputable def Znc:Cfg:=Z5 (P:=Tryz.prog) (tab:=tab) [] false []
def Znd (r_:V×List V×List V×List V×List V):List (Ex×St):=[((Ex.exit 0),(⟨[],[(0,some (Blk.box Zk (l11 r_.1))),(1,some (Blk.row Zg false r_.2.1)),(2,some (Blk.row Zf false r_.2.2.1)),(3,some (Blk.row Za true r_.2.2.2.1)),(4,some (Blk.row Ze true r_.2.2.2.2))],5,[0]⟩:St))]
def s194v1_0:SS:=⟨[(0,(.one (.bp 0 0)))],[(.box Zk q12),(.row Zg false),(.row Zf false),(.row Za true),(.row Ze true)],5,[0]⟩
noncomputable def Zne:LE:=le0 3 s194v1_0 (fun st=>Zco (((((br st 2).length:Nat):Int)-10).toNat+1) (bc st 0) (br st 1) (br st 2) (br st 3) (br st 4)) Znd
noncomputable def ZkX:Loops:=⟨fun k=>(look [(3,[0])] k).getD [],fun _=>[],fun k=>(look [(3,[])] k).getD [],Zbe [Zne],[],fun _=>[]⟩
theorem t194v1_0 (k_:Nat):∀(b0:V) (r1:List V) (r2:List V) (r3:List V) (r4:List V),Agr id (pk0 Znd) (Zco k_ b0 r1 r2 r3 r4) (ZJ Znc ZkX (lpB Tryz.f194 0) k_ (s194v1_0.mk' (stv [] [bx b0,rb r1,rb r2,rb r3,rb r4]))):=by
 induction k_ with
 | zero=>exact fun _ _ _ _ _=>g0
 | succ k_ ih=>exact fun b0 r1 r2 r3 r4=>gA (g1 (g1 (g1 (agr_none (O:=ZJ Znc ZkX (lpB Tryz.f194 0) k_ (⟨[(0,(V.bp 0 0))],[(0,some (Blk.box Zk [(vi (gi b0 0)),(vs 1 Zg),(V.sl 2 Zf 1 (some (r2.length-1))),(vi (gi (rd r2 0) 1)),(vs 3 Za),(vs 4 Ze)])),(1,some (Blk.row Zg false r1)),(2,some (Blk.row Zf false r2)),(3,some (Blk.row Za true r3)),(4,some (Blk.row Ze true r4))],5,[0]⟩:St))) g0) g0) g4) (by kernel_rfl)
theorem o194v1:ZC Znc ZkX (ZM Tryz.f194):=GoodAll.ok (l:=[Zne]) (.cons 0 (by kernel_rfl) (gd0 (fun st=>((((br st 2).length:Nat):Int)-10).toNat+1) (fun st=>t194v1_0 _ _ _ _ _ _) fun st=>by kernel_rfl) (.nil)) rfl
set_option maxRecDepth 100000 in
noncomputable def Znf:En Tryz.prog tab:=enP base [] false [] Tryz.func194 (L:=ZkX) o194v1 [(.rf Zk q29),(.one (.int .i64))] (fun a=>Zdq ((rd a 0).unbox) ((rd a 1).I)) (fun r_:V=>((V.tup []),[(V.rf Zk (l30 r_))])) [] [q28] [none,none] false (by kernel_rfl) fun _=>gA (g1 (g1 (g1 (g1 (g1 (g1 (g1 (g2 fun _=>g4) g0) g0) g0) g0) g0) g0) g0) (by kernel_rfl)
noncomputable def c193v1:Cfg:=Z5 (P:=Tryz.prog) (tab:=tab) [e135,e136] false []
def Zng (r_:List V×List V×Int×V×List V×List V×List V×List V):List (Ex×St):=[((Ex.exit 0),(⟨[(0,(V.bp 0 0)),(1,(V.inl Zc r_.1)),(2,(V.inl Zc r_.2.1)),(7,(vi r_.2.2.1))],[(0,some (Blk.box Zk (l11 r_.2.2.2.1))),(1,some (Blk.row Zg false r_.2.2.2.2.1)),(2,some (Blk.row Zf false r_.2.2.2.2.2.1)),(3,some (Blk.row Za true r_.2.2.2.2.2.2.1)),(4,some (Blk.row Ze true r_.2.2.2.2.2.2.2))],5,[0]⟩:St))]
def s193v1_0:SS:=⟨[(0,(.one (.bp 0 0))),(1,(.one (.inl Zc))),(2,(.one (.inl Zc))),(7,(.one (.int .i64)))],[(.box Zk q12),(.row Zg false),(.row Zf false),(.row Za true),(.row Ze true)],5,[0]⟩
noncomputable def Znh:LE:=le0 12 s193v1_0 (fun st=>Zae (((((br st 1).length:Nat):Int)-((sv st 3).I)).toNat+1) ((sv st 1).L) ((sv st 2).L) ((sv st 3).I) (bc st 0) (br st 1) (br st 2) (br st 3) (br st 4)) Zng
noncomputable def Zni:Loops:=⟨fun k=>(look [(12,[0,1,2,7])] k).getD [],fun _=>[],fun k=>(look [(12,[0,1,2,7])] k).getD [],Zbe [Znh],[],fun _=>[]⟩
theorem t193v1_0 (k_:Nat):∀(key1:List V) (val2:List V) (i7:Int) (b0:V) (r1:List V) (r2:List V) (r3:List V) (r4:List V),Agr id (pk0 Zng) (Zae k_ key1 val2 i7 b0 r1 r2 r3 r4) (ZJ c193v1 Zni (lpB Tryz.f193 0) k_ (s193v1_0.mk' (stv [.dead,V.inl 0 key1,V.inl 0 val2,vi i7] [bx b0,rb r1,rb r2,rb r3,rb r4]))):=by
 induction k_ with
 | zero=>exact fun _ _ _ _ _ _ _ _=>g0
 | succ k_ ih=>exact fun _ _ _ _ _ _ _ _=>gA (g1 (g1 (g1 (ih _ _ _ _ _ _ _ _) g4) g0) g4) (by kernel_rfl)
theorem o193v1:ZC c193v1 Zni (ZM Tryz.f193):=GoodAll.ok (l:=[Znh]) (.cons 0 (by kernel_rfl) (gd0 (fun st=>((((br st 1).length:Nat):Int)-((sv st 3).I)).toNat+1) (fun st=>t193v1_0 _ _ _ _ _ _ _ _ _) fun st=>by kernel_rfl) (.nil)) rfl
set_option maxRecDepth 100000 in
noncomputable def e193v1:En Tryz.prog tab:=enP base [e135,e136] false [] Tryz.func193 (L:=Zni) o193v1 [(.rf Zk q29),(.one (.inl Zc)),(.one (.inl Zc))] (fun a=>Zat ((rd a 0).unbox) ((rd a 1).L) ((rd a 2).L)) (fun r_:Bool×V=>((V.bool r_.1),[(V.rf Zk (l30 r_.2))])) [] [q28] [none,some Zc,some Zc] false (by kernel_rfl) fun _=>gA (g2 fun _=>g1 (g1 (g1 (g1 g4 g0) g0) g0) (g1 g4 (g2 fun _=>g1 (g1 (g1 (g1 (g1 (g2 fun _=>g1 (g1 (g1 (g1 (g1 (g1 (g1 g4 g0) g0) g0) g0) g0) g0) g0) g0) g0) g0) g0) (g2 fun _=>g1 (g1 (g1 (g1 (g1 (g1 (g1 g4 g0) g0) g0) g0) g0) g0) g0)))) (by kernel_rfl)
noncomputable def c195v1:Cfg:=Z5 (P:=Tryz.prog) (tab:=tab) [Znf] false []
def Znj (r_:V×List V×List V×List V×List V):List (Ex×St):=[((Ex.exit 0),(⟨[],[(0,some (Blk.box Zk (l11 r_.1))),(1,some (Blk.row Zg false r_.2.1)),(2,some (Blk.row Zf false r_.2.2.1)),(3,some (Blk.row Za true r_.2.2.2.1)),(4,some (Blk.row Ze true r_.2.2.2.2))],5,[0]⟩:St))]
def s195v1_0:SS:=⟨[(0,(.one (.bp 0 0))),(4,(.one (.bp 1 0))),(5,(.one (.int .i64)))],[(.box Zk q24),(.box Za [(.int .i64), .bool]),(.row Zg false),(.row Zf false),(.row Za true),(.row Ze true)],6,[0]⟩
noncomputable def Znk:LE:=le0 3 s195v1_0 (fun st=>Zaz (((((br st 2).length:Nat):Int)-((sv st 2).I)).toNat+1) ((sv st 2).I) (bc st 0) (bc st 1) (br st 2) (br st 3) (br st 4) (br st 5)) Znj
noncomputable def Znl:Loops:=⟨fun k=>(look [(3,[0,4,5])] k).getD [],fun _=>[],fun k=>(look [(3,[])] k).getD [],Zbe [Znk],[],fun _=>[]⟩
set_option maxRecDepth 100000 in
theorem t195v1_0 (k_:Nat):∀(k5:Int) (b0:V) (b1:V) (r2:List V) (r3:List V) (r4:List V) (r5:List V),Agr id (pk0 Znj) (Zaz k_ k5 b0 b1 r2 r3 r4 r5) (ZJ c195v1 Znl (lpB Tryz.f195 0) k_ (s195v1_0.mk' (stv [.dead, .dead,vi k5] [bx b0,bx b1,rb r2,rb r3,rb r4,rb r5]))):=by
 induction k_ with
 | zero=>exact fun _ _ _ _ _ _ _=>g0
 | succ k_ ih=>exact fun _ _ _ _ _ _ _=>gA (g1 (g1 (g1 (ih _ _ _ _ _ _ _) (g1 (g2 fun _=>ih _ _ _ _ _ _ _) (g1 (g1 (ih _ _ _ _ _ _ _) g0) g0))) g0) g4) (by kernel_rfl)
theorem o195v1:ZC c195v1 Znl (ZM Tryz.f195):=GoodAll.ok (l:=[Znk]) (.cons 0 (by kernel_rfl) (gd0 (fun st=>((((br st 2).length:Nat):Int)-((sv st 2).I)).toNat+1) (fun st=>t195v1_0 _ _ _ _ _ _ _ _) fun st=>by kernel_rfl) (.nil)) rfl
noncomputable def e195v1:En Tryz.prog tab:=enP base [Znf] false [] Tryz.func195 (L:=Znl) o195v1 [(.rf Zk q29),(.one (.int .i64))] (fun a=>Zdr ((rd a 0).unbox) ((rd a 1).I)) (fun r_:V=>((V.tup []),[(V.rf Zk (l30 r_))])) [] [q28] [none,none] false (by kernel_rfl) fun _=>gA (g1 (g1 (g1 (g1 (g1 (g2 fun _=>g4) g0) g0) g0) g0) g0) (by kernel_rfl)
set_option maxRecDepth 100000 in
noncomputable def e150v1:En Tryz.prog tab:=enP base [e135,e193v1,Znf,e134,e195v1] false [] Tryz.func150 Zag [(.rf Zk q29),(.agg q4)] (fun a=>Zbm ((rd a 0).unbox) (rd a 1)) (fun r_:Int×V=>((vi r_.1),[(V.rf Zk (l30 r_.2))])) [] [q28] [none,none] false (by kernel_rfl) fun _=>gA (g1 (g2 fun _=>g1 (g2 fun _=>g1 g4 g4) (g1 (g1 (g1 (g1 g4 (g2 fun _=>g1 g4 g4)) g0) (g1 g4 (g2 fun _=>g1 g4 g4))) (g1 (g1 g4 (g2 fun _=>g4)) (g1 (g1 g4 (g1 (g1 g4 g0) g0)) (g1 (g2 fun _=>g1 g4 (g2 fun _=>g4)) (g1 (g2 fun _=>g1 g4 (g1 (g1 (g1 (g1 (g1 g4 (g2 fun _=>g1 g4 (g2 fun _=>g1 g4 g0))) g0) (g2 fun _=>g1 g4 (g2 fun _=>g1 g4 g0))) g0) (g2 fun _=>g1 g4 (g2 fun _=>g1 g4 g0)))) (g1 (g1 g4 (g1 (g1 g4 (g1 (g1 g4 g0) g0)) g0)) g4))))))) (g1 (g2 fun _=>g1 g4 g4) (g1 (g1 g4 (g2 fun _=>g1 g4 g4)) (g1 g4 (g1 (g1 g4 (g1 (g1 g4 g0) g0)) (g1 (g2 fun _=>g1 g4 (g2 fun _=>g4)) (g1 (g2 fun _=>g1 g4 (g2 fun _=>g1 g4 (g2 fun _=>g1 g4 g0))) (g1 g4 g4)))))))) (by kernel_rfl)
noncomputable def c71v1:Cfg:=Z5 (P:=Tryz.prog) (tab:=tab) [e150v1] false []
def ZoB (r_:Int×V×V×V×V×List V×List V×List V×List V):List (Ex×St):=[((Ex.exit 0),(⟨[(0,(V.bp 0 0)),(3,(V.bp 1 0)),(4,(V.bp 2 0)),(5,(V.bp 3 0)),(6,(vi r_.1))],[(0,some (Blk.box Zk (l47 r_.2.1))),(1,some (Blk.box Zi (l48 r_.2.2.1))),(2,some (Blk.box Zbz (l49 r_.2.2.2.1))),(3,some (Blk.box Zbz (l49 r_.2.2.2.2.1))),(4,some (Blk.row Zg false r_.2.2.2.2.2.1)),(5,some (Blk.row Zf false r_.2.2.2.2.2.2.1)),(6,some (Blk.row Za true r_.2.2.2.2.2.2.2.1)),(7,some (Blk.row Ze true r_.2.2.2.2.2.2.2.2))],8,[0]⟩:St))]
def s71v1_0:SS:=⟨[(0,(.one (.bp 0 0))),(3,(.one (.bp 1 0))),(4,(.one (.bp 2 0))),(5,(.one (.bp 3 0))),(6,(.one (.int .i64)))],[(.box Zk q31),(.box Zi q5),(.box Zbz [(.int .i64),(.int .i64)]),(.box Zbz [(.int .i64),(.int .i64)]),(.row Zg false),(.row Zf false),(.row Za true),(.row Ze true)],8,[0]⟩
noncomputable def ZoC:LE:=le0 6 s71v1_0 (fun st=>Zar (((((br st 7).length:Nat):Int)-((sv st 4).I)).toNat+1) ((sv st 4).I) (bc st 0) (bc st 1) (bc st 2) (bc st 3) (br st 4) (br st 5) (br st 6) (br st 7)) ZoB
noncomputable def L71v1:Loops:=⟨fun k=>(look [(6,[0,3,4,5,6])] k).getD [],fun _=>[],fun k=>(look [(6,[0,3,4,5,6])] k).getD [],Zbe [ZoC],[],fun _=>[]⟩
theorem t71v1_0 (k_:Nat):∀(k6:Int) (b0:V) (b1:V) (b2:V) (b3:V) (r4:List V) (r5:List V) (r6:List V) (r7:List V),Agr id (pk0 ZoB) (Zar k_ k6 b0 b1 b2 b3 r4 r5 r6 r7) (ZJ c71v1 L71v1 (lpB Tryz.f71 0) k_ (s71v1_0.mk' (stv [.dead, .dead, .dead, .dead,vi k6] [bx b0,bx b1,bx b2,bx b3,rb r4,rb r5,rb r6,rb r7]))):=by
 induction k_ with
 | zero=>exact fun _ _ _ _ _ _ _ _ _=>g0
 | succ k_ ih=>exact fun _ _ _ _ _ _ _ _ _=>gA (g1 (g1 (g1 (ih _ _ _ _ _ _ _ _ _) g4) g0) g4) (by kernel_rfl)
theorem o71v1:ZC c71v1 L71v1 (ZM Tryz.f71):=GoodAll.ok (l:=[ZoC]) (.cons 0 (by kernel_rfl) (gd0 (fun st=>((((br st 7).length:Nat):Int)-((sv st 4).I)).toNat+1) (fun st=>t71v1_0 _ _ _ _ _ _ _ _ _ _) fun st=>by kernel_rfl) (.nil)) rfl
set_option maxRecDepth 100000 in
noncomputable def e71v1:En Tryz.prog tab:=enP base [e150v1] false [] Tryz.func71 (L:=L71v1) o71v1 [(.rf Zk q29),(.agg q5)] (fun a=>ZK ((rd a 0).unbox) (rd a 1)) (fun r_:V×V=>((ZA r_.1),[(V.rf Zk (l30 r_.2))])) [] [q28] [none,none] false (by kernel_rfl) fun _=>gA (g1 g4 (g2 fun _=>g1 (g1 (g1 (g1 (g1 (g1 g4 g0) (g1 (g1 g4 (g2 fun _=>g1 (g1 g4 g0) g0)) g0)) g0) (g2 fun _=>g1 (g1 (g1 (g1 (g1 g4 g0) g0) g0) g0) g0)) g0) (g2 fun _=>g1 (g1 (g1 (g1 (g1 g4 g0) g0) g0) g0) g0))) (by kernel_rfl)
noncomputable def c218:Cfg:=Z5 (P:=Tryz.prog) (tab:=tab) [e78,e203,e80,e71v1] false []
def a218_0 (r_:V×V×V×List V×List V×List V×List V×List V×List V×List V×List V):List (Ex×St):=[((Ex.exit 0),(⟨[(2,(V.bp 1 0)),(3,(V.bp 2 0))],[(0,some (Blk.box Zz (l0 r_.1))),(1,some (Blk.box Zk (l16 r_.2.1))),(2,some (Blk.box Zk (l17 r_.2.2.1))),(3,some (Blk.row Zg true r_.2.2.2.1)),(4,some (Blk.row Zf true r_.2.2.2.2.1)),(5,some (Blk.row Za true r_.2.2.2.2.2.1)),(6,some (Blk.row Ze true r_.2.2.2.2.2.2.1)),(7,some (Blk.row Zg false r_.2.2.2.2.2.2.2.1)),(8,some (Blk.row Zf false r_.2.2.2.2.2.2.2.2.1)),(9,some (Blk.row Za true r_.2.2.2.2.2.2.2.2.2.1)),(10,some (Blk.row Ze true r_.2.2.2.2.2.2.2.2.2.2))],11,[0]⟩:St))]
def s218_0:SS:=⟨[(0,(.one (.bp 0 0))),(2,(.one (.bp 1 0))),(3,(.one (.bp 2 0))),(4,(.one (.int .i64))),(5,(.one (.int .i64)))],[(.box Zz [(.inl Zc),(.int .i64),(.int .i64)]),(.box Zk q18),(.box Zk q19),(.row Zg true),(.row Zf true),(.row Za true),(.row Ze true),(.row Zg false),(.row Zf false),(.row Za true),(.row Ze true)],11,[0]⟩
noncomputable def l218_0:LE:=le0 4 s218_0 (fun st=>ZG ((((sv st 3).I)-((sv st 4).I)).toNat+1) ((sv st 3).I) ((sv st 4).I) (bc st 0) (bc st 1) (bc st 2) (br st 3) (br st 4) (br st 5) (br st 6) (br st 7) (br st 8) (br st 9) (br st 10)) a218_0
noncomputable def L218:Loops:=⟨fun k=>(look [(4,[0,2,3,4,5])] k).getD [],fun k=>(look [(4,[⟨2,some 1,true⟩,⟨2,some 2,true⟩,⟨2,some 4,true⟩,⟨2,some 5,true⟩,⟨3,some 4,true⟩,⟨3,some 5,true⟩,⟨3,some 1,false⟩,⟨3,some 2,false⟩])] k).getD [],fun k=>(look [(4,[2,3])] k).getD [],Zbe [l218_0],[],fun _=>[]⟩
set_option maxRecDepth 100000 in
theorem t218_0 (k_:Nat):∀(n4:Int) (i5:Int) (b0:V) (b1:V) (b2:V) (r3:List V) (r4:List V) (r5:List V) (r6:List V) (r7:List V) (r8:List V) (r9:List V) (r10:List V),Agr id (pk0 a218_0) (ZG k_ n4 i5 b0 b1 b2 r3 r4 r5 r6 r7 r8 r9 r10) (ZJ c218 L218 (lpB Tryz.f218 0) k_ (s218_0.mk' (stv [.dead, .dead, .dead,vi n4,vi i5] [bx b0,bx b1,bx b2,rb r3,rb r4,rb r5,rb r6,rb r7,rb r8,rb r9,rb r10]))):=by
 induction k_ with
 | zero=>exact fun _ _ _ _ _ _ _ _ _ _ _ _ _=>g0
 | succ k_ ih=>exact fun _ _ _ _ _ _ _ _ _ _ _ _ _=>gA (g1 (g2 fun _=>g2 fun _=>g1 (g2 fun _=>g2 fun _=>g1 (g2 fun _=>ih _ _ _ _ _ _ _ _ _ _ _ _ _) (g2 fun _=>ih _ _ _ _ _ _ _ _ _ _ _ _ _)) (g1 (g1 (g2 fun _=>g1 (g2 fun _=>g1 (g2 fun _=>g1 (g2 fun _=>ih _ _ _ _ _ _ _ _ _ _ _ _ _) (g2 fun _=>ih _ _ _ _ _ _ _ _ _ _ _ _ _)) g0) (g2 fun _=>g1 (g2 fun _=>ih _ _ _ _ _ _ _ _ _ _ _ _ _) (g2 fun _=>ih _ _ _ _ _ _ _ _ _ _ _ _ _))) (g2 fun _=>g1 (g2 fun _=>ih _ _ _ _ _ _ _ _ _ _ _ _ _) (g2 fun _=>ih _ _ _ _ _ _ _ _ _ _ _ _ _))) (g2 fun _=>g1 (g2 fun _=>ih _ _ _ _ _ _ _ _ _ _ _ _ _) (g2 fun _=>ih _ _ _ _ _ _ _ _ _ _ _ _ _)))) g4) (by kernel_rfl)
theorem o218:ZC c218 L218 (ZM Tryz.f218):=GoodAll.ok (l:=[l218_0]) (.cons 0 (by kernel_rfl) (gd0 (fun st=>(((sv st 3).I)-((sv st 4).I)).toNat+1) (fun st=>t218_0 _ _ _ _ _ _ _ _ _ _ _ _ _ _) fun st=>by kernel_rfl) (.nil)) rfl
noncomputable def e218:En Tryz.prog tab:=enP base [e78,e203,e80,e71v1] false [] Tryz.func218 (L:=L218) o218 [(.rf Zz [(.inl Zc),(.int .i64),(.int .i64)])] (fun a=>Ze3 ((rd a 0).unbox)) (fun r_:V×V=>((h27 r_.1),[(V.rf Zz (l0 r_.2))])) [q28] [[(.inl Zc)]] [none] false (by kernel_rfl) fun _=>gA (g2 fun _=>g2 fun _=>g4) (by kernel_rfl)
set_option maxRecDepth 100000 in
noncomputable def e179:En Tryz.prog tab:=enP base [e218,e80,e78,e114,e219] false [] Tryz.func179 Zag [(.rf Zz [(.inl Zc),(.int .i64),(.int .i64)])] (fun a=>Zfs ((rd a 0).unbox)) (fun r_:V×V=>((h27 r_.1),[(V.rf Zz (l0 r_.2))])) [q28] [[(.inl Zc)]] [none] false (by kernel_rfl) fun _=>gA (g2 fun _=>g2 fun _=>g1 g4 (g2 fun _=>g1 (g2 fun _=>g4) (g1 (g1 (g2 fun _=>g1 g4 g0) g4) (g1 (g1 (g2 fun _=>g1 g4 g0) g4) (g1 (g2 fun _=>g1 g4 g0) (g1 (g2 fun _=>g4) (g1 (g2 fun _=>g1 g4 g0) (g1 (g2 fun _=>g1 g4 g0) (g1 (g2 fun _=>g1 (g1 g4 g0) g0) g4))))))))) (by kernel_rfl)
noncomputable def c117:Cfg:=Z5 (P:=Tryz.prog) (tab:=tab) [e179,e78,e79,e33,e80] false []
def a117_0 (r_:V×V×V×List V×List V×List V×List V×List V×List V×List V×List V×List V×List V):List (Ex×St):=[((Ex.exit 0),(⟨[(2,(V.bp 1 0)),(3,(V.bp 2 0))],[(0,some (Blk.box Zz (l0 r_.1))),(1,some (Blk.box ZE (l50 r_.2.1))),(2,some (Blk.box ZE (l51 r_.2.2.1))),(3,some (Blk.row Zg true r_.2.2.2.1)),(4,some (Blk.row Zf true r_.2.2.2.2.1)),(5,some (Blk.row Za true r_.2.2.2.2.2.1)),(6,some (Blk.row Ze true r_.2.2.2.2.2.2.1)),(7,some (Blk.row Zi true r_.2.2.2.2.2.2.2.1)),(8,some (Blk.row Zg false r_.2.2.2.2.2.2.2.2.1)),(9,some (Blk.row Zf false r_.2.2.2.2.2.2.2.2.2.1)),(10,some (Blk.row Za true r_.2.2.2.2.2.2.2.2.2.2.1)),(11,some (Blk.row Ze true r_.2.2.2.2.2.2.2.2.2.2.2.1)),(12,some (Blk.row Zi false r_.2.2.2.2.2.2.2.2.2.2.2.2))],13,[0]⟩:St))]
def s117_0:SS:=⟨[(0,(.one (.bp 0 0))),(2,(.one (.bp 1 0))),(3,(.one (.bp 2 0))),(4,(.one (.int .i64))),(5,(.one (.int .i64)))],[(.box Zz [(.inl Zc),(.int .i64),(.int .i64)]),(.box ZE q52),(.box ZE q53),(.row Zg true),(.row Zf true),(.row Za true),(.row Ze true),(.row Zi true),(.row Zg false),(.row Zf false),(.row Za true),(.row Ze true),(.row Zi false)],13,[0]⟩
noncomputable def l117_0:LE:=le0 4 s117_0 (fun st=>ZbH ((((sv st 3).I)-((sv st 4).I)).toNat+1) ((sv st 3).I) ((sv st 4).I) (bc st 0) (bc st 1) (bc st 2) (br st 3) (br st 4) (br st 5) (br st 6) (br st 7) (br st 8) (br st 9) (br st 10) (br st 11) (br st 12)) a117_0
noncomputable def L117:Loops:=⟨fun k=>(look [(4,[0,2,3,4,5])] k).getD [],fun k=>(look [(4,[⟨2,some 1,true⟩,⟨2,some 2,true⟩,⟨2,some 4,true⟩,⟨2,some 5,true⟩,⟨2,some 6,true⟩,⟨3,some 6,false⟩])] k).getD [],fun k=>(look [(4,[2,3])] k).getD [],Zbe [l117_0],[],fun _=>[]⟩
set_option maxRecDepth 100000 in
theorem t117_0 (k_:Nat):∀(n4:Int) (i5:Int) (b0:V) (b1:V) (b2:V) (r3:List V) (r4:List V) (r5:List V) (r6:List V) (r7:List V) (r8:List V) (r9:List V) (r10:List V) (r11:List V) (r12:List V),Agr id (pk0 a117_0) (ZbH k_ n4 i5 b0 b1 b2 r3 r4 r5 r6 r7 r8 r9 r10 r11 r12) (ZJ c117 L117 (lpB Tryz.f117 0) k_ (s117_0.mk' (stv [.dead, .dead, .dead,vi n4,vi i5] [bx b0,bx b1,bx b2,rb r3,rb r4,rb r5,rb r6,rb r7,rb r8,rb r9,rb r10,rb r11,rb r12]))):=by
 induction k_ with
 | zero=>exact fun _ _ _ _ _ _ _ _ _ _ _ _ _ _ _=>g0
 | succ k_ ih=>exact fun _ _ _ _ _ _ _ _ _ _ _ _ _ _ _=>gA (g1 (g2 fun _=>g2 fun _=>g1 (g1 (ih _ _ _ _ _ _ _ _ _ _ _ _ _ _ _) g0) (g2 fun _=>g1 (g1 (ih _ _ _ _ _ _ _ _ _ _ _ _ _ _ _) g0) (ih _ _ _ _ _ _ _ _ _ _ _ _ _ _ _))) g4) (by kernel_rfl)
theorem o117:ZC c117 L117 (ZM Tryz.f117):=GoodAll.ok (l:=[l117_0]) (.cons 0 (by kernel_rfl) (gd0 (fun st=>(((sv st 3).I)-((sv st 4).I)).toNat+1) (fun st=>t117_0 _ _ _ _ _ _ _ _ _ _ _ _ _ _ _ _) fun st=>by kernel_rfl) (.nil)) rfl
noncomputable def e117:En Tryz.prog tab:=enP base [e179,e78,e79,e33,e80] false [] Tryz.func117 (L:=L117) o117 [(.rf Zz [(.inl Zc),(.int .i64),(.int .i64)])] (fun a=>Zft ((rd a 0).unbox)) (fun r_:V×V=>((h54 r_.1),[(V.rf Zz (l0 r_.2))])) [q55] [[(.inl Zc)]] [none] false (by kernel_rfl) fun _=>gA (g2 fun _=>g2 fun _=>g2 fun _=>g4) (by kernel_rfl)
noncomputable def e46:En Tryz.prog tab:=enP base [e77,e117,e79] false [] Tryz.func46 Zag [(.one (.inl Zc))] (fun a=>ZdH ((rd a 0).L)) (fun r_:V×V=>((V.tup [(h54 r_.1),(h2 r_.2)]),[])) [q55,q3] [] [some Zc] false (by kernel_rfl) fun _=>gA (g2 fun _=>g2 fun _=>g2 fun _=>g4) (by kernel_rfl)
noncomputable def c15:Cfg:=Z5 (P:=Tryz.prog) (tab:=tab) [e45,e62,e63,e64] false []
def a15_0 (r_:V×V×V×V×List V×List V×List V×List V×List V×List V×List V×List V×List V×List V):List (Ex×St):=[((Ex.exit 0),(⟨[(2,(V.bp 0 0)),(3,(V.bp 1 0)),(4,(V.bp 2 0)),(6,(V.bp 3 0))],[(0,some (Blk.box ZE (l56 r_.1))),(1,some (Blk.box Zi (l48 r_.2.1))),(2,some (Blk.box ZE (l57 r_.2.2.1))),(3,some (Blk.box ZE (l58 r_.2.2.2.1))),(4,some (Blk.row Zg true r_.2.2.2.2.1)),(5,some (Blk.row Zf true r_.2.2.2.2.2.1)),(6,some (Blk.row Za true r_.2.2.2.2.2.2.1)),(7,some (Blk.row Ze true r_.2.2.2.2.2.2.2.1)),(8,some (Blk.row Zi true r_.2.2.2.2.2.2.2.2.1)),(9,some (Blk.row Zg false r_.2.2.2.2.2.2.2.2.2.1)),(10,some (Blk.row Zf false r_.2.2.2.2.2.2.2.2.2.2.1)),(11,some (Blk.row Za true r_.2.2.2.2.2.2.2.2.2.2.2.1)),(12,some (Blk.row Ze true r_.2.2.2.2.2.2.2.2.2.2.2.2.1)),(13,some (Blk.row Zi true r_.2.2.2.2.2.2.2.2.2.2.2.2.2))],14,[]⟩:St))]
def s15_0:SS:=⟨[(2,(.one (.bp 0 0))),(3,(.one (.bp 1 0))),(4,(.one (.bp 2 0))),(6,(.one (.bp 3 0))),(23,(.one (.inl Zi))),(24,(.one (.int .i64))),(25,(.one (.int .i64)))],[(.box ZE q46),(.box Zi q5),(.box ZE q59),(.box ZE q60),(.row Zg true),(.row Zf true),(.row Za true),(.row Ze true),(.row Zi true),(.row Zg false),(.row Zf false),(.row Za true),(.row Ze true),(.row Zi true)],14,[]⟩
noncomputable def l15_0:LE:=le0 5 s15_0 (fun st=>ZaW ((((sv st 5).I)-((sv st 6).I)).toNat+1) ((sv st 4).L) ((sv st 5).I) ((sv st 6).I) (bc st 0) (bc st 1) (bc st 2) (bc st 3) (br st 4) (br st 5) (br st 6) (br st 7) (br st 8) (br st 9) (br st 10) (br st 11) (br st 12) (br st 13)) a15_0
noncomputable def L15:Loops:=⟨fun k=>(look [(5,[2,3,4,6,23,24,25])] k).getD [],fun k=>(look [(5,[⟨4,some 1,true⟩,⟨4,some 2,true⟩,⟨4,some 4,true⟩,⟨4,some 5,true⟩,⟨4,some 6,true⟩,⟨6,some 6,true⟩])] k).getD [],fun k=>(look [(5,[2,3,4,6])] k).getD [],Zbe [l15_0],[],fun _=>[]⟩
theorem t15_0 (k_:Nat):∀(v23:List V) (v24:Int) (v25:Int) (b0:V) (b1:V) (b2:V) (b3:V) (r4:List V) (r5:List V) (r6:List V) (r7:List V) (r8:List V) (r9:List V) (r10:List V) (r11:List V) (r12:List V) (r13:List V),Agr id (pk0 a15_0) (ZaW k_ v23 v24 v25 b0 b1 b2 b3 r4 r5 r6 r7 r8 r9 r10 r11 r12 r13) (ZJ c15 L15 (lpB Tryz.f15 0) k_ (s15_0.mk' (stv [.dead, .dead, .dead, .dead,V.inl 0 v23,vi v24,vi v25] [bx b0,bx b1,bx b2,bx b3,rb r4,rb r5,rb r6,rb r7,rb r8,rb r9,rb r10,rb r11,rb r12,rb r13]))):=by
 induction k_ with
 | zero=>exact fun _ _ _ _ _ _ _ _ _ _ _ _ _ _ _ _ _=>g0
 | succ k_ ih=>exact fun _ _ _ _ _ _ _ _ _ _ _ _ _ _ _ _ _=>gA (g1 (g1 (g2 fun _=>g1 (ih _ _ _ _ _ _ _ _ _ _ _ _ _ _ _ _ _) g0) g0) g4) (by kernel_rfl)
theorem o15:ZC c15 L15 (ZM Tryz.f15):=GoodAll.ok (l:=[l15_0]) (.cons 0 (by kernel_rfl) (gd0 (fun st=>(((sv st 5).I)-((sv st 6).I)).toNat+1) (fun st=>t15_0 _ _ _ _ _ _ _ _ _ _ _ _ _ _ _ _ _ _) fun st=>by kernel_rfl) (.nil)) rfl
set_option maxRecDepth 100000 in
noncomputable def e15:En Tryz.prog tab:=enP base [e45,e62,e63,e64] false [] Tryz.func15 (L:=L15) o15 [(.agg q46),(.agg q5)] (fun a=>Zds (rd a 0) (rd a 1)) (fun r_:V×Bool=>((V.tup [(h61 r_.1),(V.bool r_.2)]),[])) [q62] [] [none,none] false (by kernel_rfl) fun _=>gA (g2 fun _=>g1 g4 (g2 fun _=>g1 g4 (g2 fun _=>g2 fun _=>g1 g4 (g2 fun _=>g1 g4 g0)))) (by kernel_rfl)
end Go.Eng.R
open Go Go.Eng Go.Proofs
namespace Go.Eng.R
noncomputable def L8:Loops:=⟨fun _=>[],fun _=>[],fun _=>[],Zbe [],[],fun k=>(look [(2,[⟨3,some 1000,true⟩]),(5,[⟨5,some 1001,true⟩,⟨5,some 1002,true⟩,⟨5,some 1004,true⟩,⟨5,some 1005,true⟩,⟨5,some 1006,true⟩]),(10,[⟨12,some 1003,true⟩])] k).getD []⟩
set_option maxRecDepth 100000 in
noncomputable def e8:En Tryz.prog tab:=enP base [e44,e24,e34,e43,e28,e45,e32,e46,e15,e33,e31] false [] Tryz.func8 (L:=L8) (GoodAll.ok (l:=[]) GoodAll.nil rfl) [(.one (.inl Zc))] (fun a=>Zdt ((rd a 0).L)) (fun r_:Bool=>((V.bool r_),[])) [] [] [some Zc] false (by kernel_rfl) fun _=>gA (g2 fun _=>g2 fun _=>g1 (g1 (g1 g4 g4) g4) (g2 fun _=>g2 fun _=>g1 g4 (g2 fun _=>g1 g4 (g2 fun _=>g1 g4 (g1 g4 (g1 g4 (g2 fun _=>g2 fun _=>g1 (g2 fun _=>g1 g4 g4) (g2 fun _=>g2 fun _=>g2 fun _=>g4)))))))) (by kernel_rfl)
end Go.Eng.R
open Go Go.Eng
namespace Go.Eng.R
def W_Row (x:V):Prop:=LW ZaB (gl x 0)∧LW ZaB (gl x 1)∧I64 (gi x 2)∧I64 (gi x 3)
def W_Tomb (x:V):Prop:=LW ZaB (gl x 0)∧I64 (gi x 1)
def ZpS (x:V):Prop:=I64 (gi x 0)∧True
def W_Last (x:V):Prop:=I64 (gi x 0)∧I64 (gi x 1)∧I64 (gi x 2)∧I64 (gi x 3)
def Zfe (x:V):Prop:=I64 (gi x 0)∧LW W_Row (gl x 1)∧LW W_Tomb (gl x 2)∧I64 (gi x 3)∧LW ZpS (gl x 4)∧LW W_Last (gl x 5)
def Zce (x:V):Prop:=I64 (gi x 0)∧I64 (gi x 1)∧I64 (gi x 2)∧LW ZaB (gl x 3)∧LW ZaB (gl x 4)∧I64 (gi x 5)
def W_Op (x:V):Prop:=I64 (gi x 0)∧LW ZaB (gl x 1)∧LW ZaB (gl x 2)∧I64 (gi x 3)
end Go.Eng.R
open Go Go.Eng
namespace Go.Eng.R
theorem Zea (n lo hi:Int):ZL n lo hi=decide (lo≤n∧n≤hi):=by
 unfold ZL
 by_cases h:lo≤n <;> simp[h]
theorem ZlP (n lo hi:Int):ZL n lo hi=(!decide (n<lo) && !decide (hi<n)):=by
 rw[Zea]
 by_cases h1:n<lo
 ·rw[decide_eq_true h1,decide_eq_false (by omega)];rfl
 ·by_cases h2:hi<n
  ·rw[decide_eq_true h2,decide_eq_false (by omega)];simp
  ·rw[decide_eq_false h1,decide_eq_false h2,decide_eq_true (by omega)];rfl
theorem le_nt (a b:Int):decide (a≤b) = !decide (b<a):=by
 by_cases h:a≤b
 ·rw[decide_eq_true h,decide_eq_false (by omega)];rfl
 ·rw[decide_eq_false h,decide_eq_true (by omega)];rfl
theorem ZjN {k n:Nat} (h0:¬k=0) (h:k≤n) (hn:n≤9223372036854775807):IntKind.i64.wrap ((k:Int)-1)=((k-1:Nat):Int):=by rw[Zax (by omega) (by omega)];omega
end Go.Eng.R
open Go Go.Eng
namespace Go.Eng.R
def chB (x:V):Bool:=!decide (gi x 0<97) && !decide (122<gi x 0)||decide (gi x 0=47)
theorem Zl9 {p:V→Bool} {l:List V} {i:Nat} (h:i<l.length):(l.take (i+1)).all p=((l.take i).all p&&p (rd l i)):=by
 rw[List.take_add_one,List.all_append]
 have:l[i]? = some (rd l i):=by simp[rd,List.getD,h]
 rw[this];simp
theorem Znm {p:V→Bool} {l:List V} {i:Nat} (h:i<l.length) (hp:p (rd l i)=false):l.all p=false:=by
 rw[List.all_eq_false]
 refine⟨rd l i,?_,by simp[hp]⟩
 have:rd l i=l[i]:=by simp[rd,List.getD,h]
 rw[this];exact List.getElem_mem h
theorem Znn {ρ:Type} {F:Nat→Int→ρ} {l:List V} {p:V→Bool} {yes no:ρ}
  (h1:∀m (i:Nat),i<l.length→F (m+1) (i:Int)=bif p (rd l i) then F m ((i+1:Nat):Int) else no) (h0:∀m,F (m+1) (l.length:Int)=yes):
  F (l.length+1) 0=bif l.all p then yes else no:=by
 refine Zca (F:=fun m (_:Unit) i=>F m i) (n:=l.length) (fun i _=>(l.take i).all p=true) (fun o=>o=bif l.all p then yes else no) ?_ ?_ (s:=()) (by simp)
 ·intro m i s hi hI
  rw[h1 m i hi]
  cases hp:p (rd l i) with
  | true=>exact .inl ⟨(),rfl,by rw[Zl9 hi,hI,hp];rfl⟩
  | false=>exact .inr (by rw[Znm hi hp];rfl)
 ·intro m s hI
  rw[List.take_length] at hI
  rw[hI];exact h0 m
def Zcj (b:List V):Bool:=decide (1≤b.length)&&(decide (b.length≤20)&&b.all chB)
theorem Zma {b:List V} (hb:LW ZaB b):Zc1 b=some (Zcj b):=by
 have hl:=hb.1
 unfold Zc1 Zcj
 by_cases h1:1≤b.length
 ·by_cases h2:b.length≤20
  ·rw[show decide (((b.length:Nat):Int)<1)=false from by simp;omega,show decide ((20:Int)<((b.length:Nat):Int))=false from by simp;omega,cond_false,cond_false,Za0,
    Znn (F:=fun m i=>ZbB m b i) (l:=b) (p:=chB) (yes:=some (1,false)) (no:=some (0,false)) ?_ ?_]
   ·simp only[h1,h2,decide_true,Bool.true_and]
    cases b.all chB <;> rfl
   ·intro m i hi
    simp only[ZbB,Zaj hi,Zq hi,Int.toNat_natCast,cond_true,Zah hi hl,chB]
    cases decide (gi (rd b i) 0<97) <;> cases decide (122<gi (rd b i) 0) <;> cases decide (gi (rd b i) 0=47) <;> rfl
   ·intro m;simp only[ZbB,Zab,cond_false]
  ·rw[show decide (((b.length:Nat):Int)<1)=false from by simp;omega,show decide ((20:Int)<((b.length:Nat):Int))=true from by simp;omega]
   simp[h2]
 ·rw[show decide (((b.length:Nat):Int)<1)=true from by simp;omega]
  simp[h1]
theorem ZfO {b:List V} (hb:LW ZaB b):Zb7 b=some (Zcj b):=by
 have hl:=hb.1
 unfold Zb7 Zcj
 rw[Za0,Znn (F:=fun m i=>ZbC m b b ((b.length:Nat):Int) i) (l:=b) (p:=chB) (yes:=some (1,b,false)) (no:=some (0,b,false)) ?_ ?_]
 ·cases b.all chB with
  | true=>simp only[cond_true,Option.bind_some,Zea];simp[Nat.beq];by_cases h1:1≤b.length <;> by_cases h2:b.length≤20 <;> simp[h1,h2] <;> omega
  | false=>simp[Nat.beq]
 ·intro m i hi
  simp only[ZbC,Zaj hi,Zq hi,Int.toNat_natCast,cond_true,Zah hi hl,chB]
  cases decide (gi (rd b i) 0<97) <;> cases decide (122<gi (rd b i) 0) <;> cases decide (gi (rd b i) 0=47) <;> rfl
 ·intro m;simp only[ZbC,Zab,cond_false]
end Go.Eng.R
open Go Go.Eng
namespace Go.Eng.R
def fI (l:List V) (id:Int):Int:=match Zt (fun i=>decide (gi (rd l i) 0=id)) 0 l.length with | some j=>(j:Int) | none=>-1
def fK (l:List V) (k:List V):Int:=match Zt (fun i=>neq (gl (rd l i) 0) k) 0 l.length with | some j=>(j:Int) | none=>-1
theorem Zhi {s:V} (hl:(gl s 4).length≤9223372036854775807) (id:Int):Zb9 (Zd s) id=some (fI (gl s 4) id):=by
 unfold Zb9 fI
 simp only[show gl (Zd s) 4=gl s 4 from rfl,show Zd (Zd s)=Zd s from rfl]
 rw[Za0,show(0:Int)=((0:Nat):Int) from rfl,Zdw (F:=fun m i=>Zb0 m id i (Zd s)) (n:=(gl s 4).length) (q:=fun i=>decide (gi (rd (gl s 4) i) 0=id)) (out:=fun j=>some (0,j)) (no:=some (1,0)) ?_ ?_ ((gl s 4).length+1) 0 (by omega) (by omega)]
 ·rw[Nat.sub_zero]
  cases Zt (fun i=>decide (gi (rd (gl s 4) i) 0=id)) 0 (gl s 4).length <;> rfl
 ·intro m i hi
  simp only[Zb0,show gl (Zd s) 4=gl s 4 from rfl,show Zd (Zd s)=Zd s from rfl,Zaj hi,Zq hi,Int.toNat_natCast,cond_true,Zah hi hl]
 ·intro m;simp only[Zb0,show gl (Zd s) 4=gl s 4 from rfl,Zab,cond_false]
theorem Ze4 {s:V} (hl:(gl s 4).length≤9223372036854775807) (id:Int):Zal (Zd s) id=some (fI (gl s 4) id):=by
 unfold Zal ZcF fI
 rw[show gl (Zd s) 4=gl s 4 from rfl,Za0,show(0:Int)=((0:Nat):Int) from rfl,Zdw (F:=fun m i=>Zak m (gl s 4) (V.agg [(V.int .i64 (gi (V.agg [(V.int .i64 id)]) 0))]) (((gl s 4).length:Nat):Int) i) (n:=(gl s 4).length) (q:=fun i=>decide (gi (rd (gl s 4) i) 0=id)) (out:=fun j=>some (0,j)) (no:=some (1,0)) ?_ ?_ ((gl s 4).length+1) 0 (by omega) (by omega)]
 ·rw[Nat.sub_zero]
  cases Zt (fun i=>decide (gi (rd (gl s 4) i) 0=id)) 0 (gl s 4).length <;> rfl
 ·intro m i hi
  simp only[Zak,Zaj hi,Zq hi,Int.toNat_natCast,cond_true,Zah hi hl]
  rfl
 ·intro m;simp only[Zak,Zab,cond_false]
theorem ZfP {s:V} (hl:(gl s 1).length≤9223372036854775807) (k:List V):Zbq (Zd s) k=some (fK (gl s 1) k):=by
 unfold Zbq fK
 simp only[show gl (Zd s) 1=gl s 1 from rfl,show Zd (Zd s)=Zd s from rfl]
 rw[Za0,show(0:Int)=((0:Nat):Int) from rfl,Zdw (F:=fun m i=>Zci m k i (Zd s)) (n:=(gl s 1).length) (q:=fun i=>neq (gl (rd (gl s 1) i) 0) k) (out:=fun j=>some (0,j)) (no:=some (1,0)) ?_ ?_ ((gl s 1).length+1) 0 (by omega) (by omega)]
 ·rw[Nat.sub_zero]
  cases Zt (fun i=>neq (gl (rd (gl s 1) i) 0) k) 0 (gl s 1).length <;> rfl
 ·intro m i hi
  simp only[Zci,show gl (Zd s) 1=gl s 1 from rfl,show Zd (Zd s)=Zd s from rfl,Zaj hi,Zq hi,Int.toNat_natCast,cond_true,Zah hi hl]
  rfl
 ·intro m;simp only[Zci,show gl (Zd s) 1=gl s 1 from rfl,Zab,cond_false]
theorem Zlo {s:V} (hl:(gl s 2).length≤9223372036854775807) (k:List V):Zer (Zd s) k=some (fK (gl s 2) k):=by
 unfold Zer fK
 simp only[show gl (Zd s) 2=gl s 2 from rfl,show Zd (Zd s)=Zd s from rfl]
 rw[Za0,show(0:Int)=((0:Nat):Int) from rfl,Zdw (F:=fun m i=>ZbZ m k i (Zd s)) (n:=(gl s 2).length) (q:=fun i=>neq (gl (rd (gl s 2) i) 0) k) (out:=fun j=>some (0,j)) (no:=some (1,0)) ?_ ?_ ((gl s 2).length+1) 0 (by omega) (by omega)]
 ·rw[Nat.sub_zero]
  cases Zt (fun i=>neq (gl (rd (gl s 2) i) 0) k) 0 (gl s 2).length <;> rfl
 ·intro m i hi
  simp only[ZbZ,show gl (Zd s) 2=gl s 2 from rfl,show Zd (Zd s)=Zd s from rfl,Zaj hi,Zq hi,Int.toNat_natCast,cond_true,Zah hi hl]
  rfl
 ·intro m;simp only[ZbZ,show gl (Zd s) 2=gl s 2 from rfl,Zab,cond_false]
theorem ZiC {s:V} (hl:(gl s 2).length≤9223372036854775807) (k:List V):Zby (Zd s) k=some (fK (gl s 2) k):=by
 unfold Zby Zdo fK
 rw[show gl (Zd s) 2=gl s 2 from rfl,Za0,show(0:Int)=((0:Nat):Int) from rfl,Zdw (F:=fun m i=>Zav m (gl s 2) (V.agg [(V.inl Zc (gl (V.agg [(V.inl Zc k)]) 0))]) (((gl s 2).length:Nat):Int) i) (n:=(gl s 2).length) (q:=fun i=>neq (gl (rd (gl s 2) i) 0) k) (out:=fun j=>some (0,j)) (no:=some (1,0)) ?_ ?_ ((gl s 2).length+1) 0 (by omega) (by omega)]
 ·rw[Nat.sub_zero]
  cases Zt (fun i=>neq (gl (rd (gl s 2) i) 0) k) 0 (gl s 2).length <;> rfl
 ·intro m i hi
  simp only[Zav,Zaj hi,Zq hi,Int.toNat_natCast,cond_true,Zah hi hl]
  rfl
 ·intro m;simp only[Zav,Zab,cond_false]
theorem nlt_def (a b:List V):ZcV (a.map ZaS) (b.map ZaS)=nlt a b:=rfl
theorem bsK_eq {S:List V} (hS:S.length≤4194304) (ha:AscN (fun r=>gl r 0) S) (t:List V):Zbp S t=some (((lbN (fun r=>gl r 0) S t:Nat):Int),ZcM (fun r=>gl r 0) S t):=by
 unfold Zbp
 have hle:=Zhg (fun r=>gl r 0) S t
 rw[Za0,show(0:Int)=((0:Nat):Int) from rfl,Zi1 (F:=fun m i j=>ZQ m S t ((S.length:Nat):Int) i j) (x:=S) (p:=fun r=>nlt (gl r 0) t) (n0:=lbN (fun r=>gl r 0) S t) (out:=fun i=>some (S,t,((S.length:Nat):Int),i)) (by omega) (Zgr ha t) ?_ ?_ (S.length+1) 0 S.length (by omega) hle (by omega) (by omega)]
 ·simp only[Option.bind_some]
  unfold ZcM
  by_cases hc:lbN (fun r=>gl r 0) S t<S.length
  ·rw[Zaj hc,cond_true,Zq hc,cond_true,Int.toNat_natCast,decide_eq_true hc,Bool.true_and]
   congr 2
   exact Zo6 _ _
  ·rw[decide_eq_false (p:=((lbN (fun r=>gl r 0) S t:Nat):Int)<((S.length:Nat):Int)) (by omega),decide_eq_false hc]
   rfl
 ·intro m i j hij hj
  have hw:=wr_mid (i:=i) (j:=j) (by omega)
  simp only[ZQ,hw]
  rw[Zaj hij,cond_true,Zq (show(i+j) / 2<S.length by omega),cond_true,Int.toNat_natCast,Zah (n:=S.length) (show(i+j) / 2<S.length by omega) (by omega)]
  rw[show decide (ZdE (ZhO (rd S ((i+j) / 2))) t<0)=nlt (gl (rd S ((i+j) / 2)) 0) t from cmpV_neg _ _]
 ·intro m i;simp only[ZQ,Zab,cond_false]
theorem Zg1 {s:V} (hS:(gl s 1).length≤4194304) (ha:AscN (fun r=>gl r 0) (gl s 1)) (t:List V):ZaR (Zd s) t=some (((lbN (fun r=>gl r 0) (gl s 1) t:Nat):Int),ZcM (fun r=>gl r 0) (gl s 1) t):=by
 unfold ZaR
 rw[show gl (Zd s) 1=gl s 1 from rfl,bsK_eq hS ha]
 rfl
theorem hasN_fK {l:List V} (h:AscN (fun r=>gl r 0) l) (t:List V):ZcM (fun r=>gl r 0) l t=decide (0≤fK l t):=by
 have:=ZmW h t
 unfold fK
 rw[this]
 cases ZcM (fun r=>gl r 0) l t with
 | false=>rfl
 | true=>exact(decide_eq_true (by simp)).symm
def Zgu (s:V) (i:Nat):Bool:=Zcj (gl (rd (gl s 1) i) 0)&&(!decide (20<(((gl (rd (gl s 1) i) 1).length:Nat):Int))&&(!decide (gi (rd (gl s 1) i) 2<1)&&(!decide (gi s 0<gi (rd (gl s 1) i) 2) &&
 ((decide (gi (rd (gl s 1) i) 3=0) || !decide (fI (gl s 4) (gi (rd (gl s 1) i) 3)<0))&&(decide (i=0)||nlt (gl (rd (gl s 1) (i-1)) 0) (gl (rd (gl s 1) i) 0))))))
def Zd0 (s:V) (i:Nat):Bool:=Zcj (gl (rd (gl s 2) i) 0)&&(!decide (0≤fK (gl s 1) (gl (rd (gl s 2) i) 0))&&(decide (fK (gl s 2) (gl (rd (gl s 2) i) 0)=(i:Int))&&(!decide (gi (rd (gl s 2) i) 1<1)&&(!decide (gi s 0<gi (rd (gl s 2) i) 1) &&
 (!decide (gi (rd (gl s 2) i) 1<gi s 3)&&(decide (i=0) || !decide (gi (rd (gl s 2) i) 1<gi (rd (gl s 2) (i-1)) 1)))))))
def Zfu (s:V) (i:Nat):Bool:=!decide (gi (rd (gl s 4) i) 0<1)&&(!decide (gi s 0<gi (rd (gl s 4) i) 0)&&(decide (i=0)||decide (gi (rd (gl s 4) (i-1)) 0<gi (rd (gl s 4) i) 0)))
def Zf2 (s:V) (i:Nat):Bool:=decide (0≤gi (rd (gl s 5) i) 0∧gi (rd (gl s 5) i) 0≤3∧1≤gi (rd (gl s 5) i) 1∧gi (rd (gl s 5) i) 1≤1000000∧0≤gi (rd (gl s 5) i) 2∧gi (rd (gl s 5) i) 2≤5∧1≤gi (rd (gl s 5) i) 3∧gi (rd (gl s 5) i) 3≤gi s 0) &&
 (decide (i=0)||decide (gi (rd (gl s 5) (i-1)) 0<gi (rd (gl s 5) i) 0))
def headB (s:V):Bool:=decide (0≤gi s 0∧gi s 0≤1000000∧0≤gi s 3∧gi s 3≤gi s 0∧(gl s 1).length≤20∧(gl s 2).length≤10∧(gl s 4).length≤8∧(gl s 5).length≤4)
def ZbO (s:V):Bool:=headB s&&((List.range (gl s 1).length).all (Zgu s)&&((List.range (gl s 2).length).all (Zd0 s)&&((List.range (gl s 4).length).all (Zfu s)&&(List.range (gl s 5).length).all (Zf2 s))))
theorem Zno {s:V} (h:(List.range (gl s 1).length).all (Zgu s)=true):AscN (fun r=>gl r 0) (gl s 1):=by
 intro i hi
 rw[List.all_eq_true] at h
 have:=h (i+1) (List.mem_range.2 hi)
 unfold Zgu at this
 simp only[Bool.and_eq_true] at this
 simpa using this.2.2.2.2.2
theorem Znp {s:V} (hs:Zfe s):ZaL ((gl s 1).length+1) (gl s 1) (((gl s 1).length:Nat):Int) 0 (Zd s)=bif (List.range (gl s 1).length).all (Zgu s) then some (1,false,Zd s) else some (0,false,Zd s):=by
 have hl:=hs.2.1.1
 have hk:=hs.2.2.2.2.1.1
 refine ZiB (F:=fun m i=>ZaL m (gl s 1) (((gl s 1).length:Nat):Int) i (Zd s)) (n:=(gl s 1).length) (q:=Zgu s) (yes:=some (1,false,Zd s)) (no:=some (0,false,Zd s)) ?_ ?_
 ·intro m i hi
  have hw:=hs.2.1.rd hi
  simp only[ZaL,show gl (Zd s) 1=gl s 1 from rfl,show gi (Zd s) 0=gi s 0 from rfl,show Zd (Zd s)=Zd s from rfl,Zaj hi,Zq hi,Int.toNat_natCast,cond_true,Zah hi hl,ZfO hw.1,Option.bind_some,Ze4 hk,ZcE,ZlP,le_nt _ (20:Int),Bool.not_not,Zn6]
  unfold Zgu
  cases Zcj (gl (rd (gl s 1) i) 0) <;> try rfl
  cases decide ((20:Int)<(((gl (rd (gl s 1) i) 1).length:Nat):Int)) <;> try rfl
  cases decide (gi (rd (gl s 1) i) 2<1) <;> try rfl
  cases decide (gi s 0<gi (rd (gl s 1) i) 2) <;> try rfl
  by_cases h0:i=0
  ·subst h0
   rw[decide_eq_false (p:=(0:Int)<((0:Nat):Int)) (by omega)]
   cases decide (gi (rd (gl s 1) 0) 3=0) <;> cases decide (fI (gl s 4) (gi (rd (gl s 1) 0) 3)<0) <;> rfl
  ·rw[decide_eq_true (p:=(0:Int)<(i:Int)) (by omega),ZjN h0 (Nat.le_of_lt hi) hl,Zq (show i-1<(gl s 1).length by omega)]
   simp only[Int.toNat_natCast,decide_eq_false h0]
   cases decide (gi (rd (gl s 1) i) 3=0) <;> cases decide (fI (gl s 4) (gi (rd (gl s 1) i) 3)<0) <;> cases nlt (gl (rd (gl s 1) (i-1)) 0) (gl (rd (gl s 1) i) 0) <;> rfl
 ·intro m;simp only[ZaL,Zab,cond_false];rfl
theorem mx_eq (a b:Int):mxI a b=max a b:=by
 unfold mxI
 by_cases h:a<b <;> simp[h] <;> omega
theorem Zmb {s:V} (hs:Zfe s) (hS:(gl s 1).length≤4194304) (ha:AscN (fun r=>gl r 0) (gl s 1)):Za1 ((gl s 2).length+1) (mxI 1 (gi s 3)) (gl s 2) (((gl s 2).length:Nat):Int) 0 (Zd s)=bif (List.range (gl s 2).length).all (Zd0 s) then some (1,false,Zd s) else some (0,false,Zd s):=by
 have hr:=hs.2.1.1
 have hl:=hs.2.2.1.1
 refine Zca (F:=fun m (b:Int) i=>Za1 m b (gl s 2) (((gl s 2).length:Nat):Int) i (Zd s)) (n:=(gl s 2).length) (fun i b=>(List.range i).all (Zd0 s)=true∧(b=if i=0 then max 1 (gi s 3) else gi (rd (gl s 2) (i-1)) 1)∧1≤b∧gi s 3≤b)
  (fun o=>o=bif (List.range (gl s 2).length).all (Zd0 s) then some (1,false,Zd s) else some (0,false,Zd s)) ?_ ?_ ⟨by simp,by rw[mx_eq];simp,by rw[mx_eq];omega,by rw[mx_eq];omega⟩
 ·intro m i b hi hI
  obtain⟨hall,hb,hb1,hb2⟩:=hI
  have hw:=hs.2.2.1.rd hi
  have hno:Zd0 s i=false→(List.range (gl s 2).length).all (Zd0 s)=false:=fun h=>by
   rw[List.all_eq_false]
   exact⟨i,List.mem_range.2 hi,by simp[h]⟩
  simp only[Za1,show gi (Zd s) 0=gi s 0 from rfl,show Zd (Zd s)=Zd s from rfl,Zaj hi,Zq hi,Int.toNat_natCast,cond_true,Zah hi hl,ZfO hw.1,Option.bind_some,Zg1 hS ha,ZiC hl,hasN_fK ha,Zea]
  have ht:Zd0 s i=(Zcj (gl (rd (gl s 2) i) 0)&&(!decide (0≤fK (gl s 1) (gl (rd (gl s 2) i) 0))&&(decide (fK (gl s 2) (gl (rd (gl s 2) i) 0)=(i:Int))&&decide (b≤gi (rd (gl s 2) i) 1∧gi (rd (gl s 2) i) 1≤gi s 0)))):=by
   have e:(!decide (gi (rd (gl s 2) i) 1<1)&&(!decide (gi s 0<gi (rd (gl s 2) i) 1)&&(!decide (gi (rd (gl s 2) i) 1<gi s 3)&&(decide (i=0) || !decide (gi (rd (gl s 2) i) 1<gi (rd (gl s 2) (i-1)) 1)))))=decide (b≤gi (rd (gl s 2) i) 1∧gi (rd (gl s 2) i) 1≤gi s 0):=by
    rw[Bool.eq_iff_iff]
    simp only[Bool.and_eq_true,Bool.or_eq_true,Bool.not_eq_true',decide_eq_true_eq,decide_eq_false_iff_not]
    by_cases h0:i=0
    ·subst h0
     simp only[if_true] at hb
     omega
    ·rw[if_neg h0] at hb
     omega
   unfold Zd0
   rw[e]
  by_cases hq:Zd0 s i=true
  ·refine .inl ⟨gi (rd (gl s 2) i) 1,?_,by rw[List.range_succ,List.all_append,hall];simp[hq],by simp,?_⟩
   ·rw[ht] at hq
    simp only[Bool.and_eq_true,Bool.not_eq_true',decide_eq_true_eq] at hq
    obtain⟨q1,q2,q3,q4⟩:=hq
    simp only[q1,q2,q3,cond_false,Bool.not_true,decide_eq_true q4,decide_true]
   ·rw[ht] at hq
    simp only[Bool.and_eq_true,Bool.not_eq_true',decide_eq_true_eq] at hq
    omega
  ·have hq:Zd0 s i=false:=by simpa using hq
   refine .inr ?_
   rw[hno hq]
   rw[ht] at hq
   cases h1:decide (0≤fK (gl s 1) (gl (rd (gl s 2) i) 0)) <;> try rfl
   cases h2:Zcj (gl (rd (gl s 2) i) 0) <;> try rfl
   cases h3:decide (fK (gl s 2) (gl (rd (gl s 2) i) 0)=(i:Int)) <;> try rfl
   cases h4:decide (b≤gi (rd (gl s 2) i) 1∧gi (rd (gl s 2) i) 1≤gi s 0) <;> try rfl
   rw[h1,h2,h3,h4] at hq
   cases hq
 ·intro m b hI
  show Za1 (m+1) b (gl s 2) (((gl s 2).length:Nat):Int) (((gl s 2).length:Nat):Int) (Zd s)=_
  rw[hI.1]
  simp only[Za1,Zab,cond_false];rfl
theorem Znq {s:V} (hs:Zfe s):Za2 ((gl s 4).length+1) (gl s 4) (((gl s 4).length:Nat):Int) 0 (Zd s)=bif (List.range (gl s 4).length).all (Zfu s) then some (1,false,Zd s) else some (0,false,Zd s):=by
 have hl:=hs.2.2.2.2.1.1
 refine ZiB (F:=fun m i=>Za2 m (gl s 4) (((gl s 4).length:Nat):Int) i (Zd s)) (n:=(gl s 4).length) (q:=Zfu s) (yes:=some (1,false,Zd s)) (no:=some (0,false,Zd s)) ?_ ?_
 ·intro m i hi
  simp only[Za2,show gl (Zd s) 4=gl s 4 from rfl,show gi (Zd s) 0=gi s 0 from rfl,show Zd (Zd s)=Zd s from rfl,Zaj hi,Zq hi,Int.toNat_natCast,cond_true,Zah hi hl,ZlP]
  unfold Zfu
  cases decide (gi (rd (gl s 4) i) 0<1) <;> try rfl
  cases decide (gi s 0<gi (rd (gl s 4) i) 0) <;> try rfl
  by_cases h0:i=0
  ·subst h0
   rw[decide_eq_false (p:=(0:Int)<((0:Nat):Int)) (by omega)]
   rfl
  ·rw[decide_eq_true (p:=(0:Int)<(i:Int)) (by omega),ZjN h0 (Nat.le_of_lt hi) hl,Zq (show i-1<(gl s 4).length by omega),Int.toNat_natCast,decide_eq_false h0,le_nt (gi (rd (gl s 4) i) 0)]
   cases decide (gi (rd (gl s 4) (i-1)) 0<gi (rd (gl s 4) i) 0) <;> rfl
 ·intro m;simp only[Za2,Zab,cond_false];rfl
theorem Zpa {s:V} {i:Nat}:Zf2 s i=(decide (0≤gi (rd (gl s 5) i) 0∧gi (rd (gl s 5) i) 0≤3∧1≤gi (rd (gl s 5) i) 1∧gi (rd (gl s 5) i) 1≤1000000∧0≤gi (rd (gl s 5) i) 2∧gi (rd (gl s 5) i) 2≤5∧1≤gi (rd (gl s 5) i) 3∧gi (rd (gl s 5) i) 3≤gi s 0) &&
 (decide (i=0)||decide (gi (rd (gl s 5) (i-1)) 0<gi (rd (gl s 5) i) 0))):=rfl
theorem Zmc {s:V} (hs:Zfe s):Za3 ((gl s 5).length+1) (gl s 5) (((gl s 5).length:Nat):Int) 0 (Zd s)=bif (List.range (gl s 5).length).all (Zf2 s) then some (1,false) else some (0,false):=by
 have hl:=hs.2.2.2.2.2.1
 refine ZiB (F:=fun m i=>Za3 m (gl s 5) (((gl s 5).length:Nat):Int) i (Zd s)) (n:=(gl s 5).length) (q:=Zf2 s) (yes:=some (1,false)) (no:=some (0,false)) ?_ ?_
 ·intro m i hi
  simp only[Za3,show gl (Zd s) 5=gl s 5 from rfl,show gi (Zd s) 0=gi s 0 from rfl,show Zd (Zd s)=Zd s from rfl,Zaj hi,Zq hi,Int.toNat_natCast,cond_true,Zah hi hl,Zea]
  rw[Zpa]
  by_cases hc:0≤gi (rd (gl s 5) i) 0∧gi (rd (gl s 5) i) 0≤3∧1≤gi (rd (gl s 5) i) 1∧gi (rd (gl s 5) i) 1≤1000000∧0≤gi (rd (gl s 5) i) 2∧gi (rd (gl s 5) i) 2≤5∧1≤gi (rd (gl s 5) i) 3∧gi (rd (gl s 5) i) 3≤gi s 0
  ·rw[decide_eq_true hc,decide_eq_true (p:=0≤gi (rd (gl s 5) i) 0∧gi (rd (gl s 5) i) 0≤3) (by omega),decide_eq_true (p:=1≤gi (rd (gl s 5) i) 1∧gi (rd (gl s 5) i) 1≤1000000) (by omega),decide_eq_true (p:=0≤gi (rd (gl s 5) i) 2∧gi (rd (gl s 5) i) 2≤5) (by omega),decide_eq_true (p:=1≤gi (rd (gl s 5) i) 3∧gi (rd (gl s 5) i) 3≤gi s 0) (by omega)]
   by_cases h0:i=0
   ·subst h0
    rw[decide_eq_false (p:=(0:Int)<((0:Nat):Int)) (by omega)]
    rfl
   ·rw[decide_eq_true (p:=(0:Int)<(i:Int)) (by omega),ZjN h0 (Nat.le_of_lt hi) hl,Zq (show i-1<(gl s 5).length by omega)]
    simp only[Int.toNat_natCast,decide_eq_false h0,le_nt (gi (rd (gl s 5) i) 0)]
    cases decide (gi (rd (gl s 5) (i-1)) 0<gi (rd (gl s 5) i) 0) <;> rfl
  ·rw[decide_eq_false hc,Bool.false_and,cond_false]
   cases h1:decide (0≤gi (rd (gl s 5) i) 0∧gi (rd (gl s 5) i) 0≤3) <;> try rfl
   cases h2:decide (1≤gi (rd (gl s 5) i) 1∧gi (rd (gl s 5) i) 1≤1000000) <;> try rfl
   cases h3:decide (0≤gi (rd (gl s 5) i) 2∧gi (rd (gl s 5) i) 2≤5) <;> try rfl
   cases h4:decide (1≤gi (rd (gl s 5) i) 3∧gi (rd (gl s 5) i) 3≤gi s 0) <;> try rfl
   rw[decide_eq_true_eq] at h1 h2 h3 h4
   exact absurd (by omega) hc
 ·intro m;simp only[Za3,Zab,cond_false]
theorem ZgJ {s:V} (hs:Zfe s):Zdp (Zd s)=some (ZbO s):=by
 unfold Zdp ZbO
 simp only[show gl (Zd s) 1=gl s 1 from rfl,show gl (Zd s) 2=gl s 2 from rfl,show gl (Zd s) 4=gl s 4 from rfl,show gl (Zd s) 5=gl s 5 from rfl,show gi (Zd s) 0=gi s 0 from rfl,show gi (Zd s) 3=gi s 3 from rfl,show Zd (Zd s)=Zd s from rfl,Za0,Zea]
 by_cases hh:0≤gi s 0∧gi s 0≤1000000∧0≤gi s 3∧gi s 3≤gi s 0∧(gl s 1).length≤20∧(gl s 2).length≤10∧(gl s 4).length≤8∧(gl s 5).length≤4
 ·rw[show headB s=true from decide_eq_true hh,decide_eq_true (p:=0≤gi s 0∧gi s 0≤1000000) (by omega),decide_eq_true (p:=0≤gi s 3∧gi s 3≤gi s 0) (by omega),decide_eq_false (p:=(20:Int)<(((gl s 1).length:Nat):Int)) (by omega),decide_eq_false (p:=(10:Int)<(((gl s 2).length:Nat):Int)) (by omega),decide_eq_false (p:=(8:Int)<(((gl s 4).length:Nat):Int)) (by omega),decide_eq_false (p:=(4:Int)<(((gl s 5).length:Nat):Int)) (by omega)]
  simp only[Bool.not_true,cond_false,Bool.true_and,Znp hs]
  cases hr:(List.range (gl s 1).length).all (Zgu s) <;> simp only[cond_true,cond_false,Option.bind_some] <;> try rfl
  simp only[show Nat.beq 1 0=false from rfl,cond_false,show Zd (Zd s)=Zd s from rfl,show gl (Zd s) 2=gl s 2 from rfl,show gi (Zd s) 3=gi s 3 from rfl,Zmb hs (by omega) (Zno hr)]
  cases(List.range (gl s 2).length).all (Zd0 s) <;> simp only[cond_true,cond_false,Option.bind_some] <;> try rfl
  simp only[show Nat.beq 1 0=false from rfl,cond_false,show Zd (Zd s)=Zd s from rfl,show gl (Zd s) 4=gl s 4 from rfl,Znq hs]
  cases(List.range (gl s 4).length).all (Zfu s) <;> simp only[cond_true,cond_false,Option.bind_some] <;> try rfl
  simp only[show Nat.beq 1 0=false from rfl,cond_false,show Zd (Zd s)=Zd s from rfl,show gl (Zd s) 5=gl s 5 from rfl,Zmc hs]
  cases(List.range (gl s 5).length).all (Zf2 s) <;> rfl
 ·rw[show headB s=false from decide_eq_false hh,Bool.false_and]
  cases h1:decide (0≤gi s 0∧gi s 0≤1000000) <;> try rfl
  cases h4:decide (0≤gi s 3∧gi s 3≤gi s 0) <;> try rfl
  cases h2:decide ((20:Int)<(((gl s 1).length:Nat):Int)) <;> try rfl
  cases h3:decide ((10:Int)<(((gl s 2).length:Nat):Int)) <;> try rfl
  cases h6:decide ((8:Int)<(((gl s 4).length:Nat):Int)) <;> try rfl
  cases h7:decide ((4:Int)<(((gl s 5).length:Nat):Int)) <;> try rfl
  simp only[decide_eq_false_iff_not,decide_eq_true_eq] at h1 h2 h3 h4 h6 h7
  exact absurd (by omega) hh
end Go.Eng.R
open Go Go.Eng
namespace Go.Eng.R
def Ok {α:Type} (P:α→Prop) (o:Option α):Prop:=∃x,o=some x∧P x
theorem Ok.bind {α β:Type} {P:β→Prop} {Q:α→Prop} {o:Option α} {f:α→Option β} (h:Ok Q o) (g:∀x,Q x→Ok P (f x)):Ok P (Option.bind o f):=by
 obtain⟨x,rfl,hx⟩:=h
 exact g x hx
theorem Ok.ret {α:Type} {P:α→Prop} {x:α} (h:P x):Ok P (some x):=⟨x,rfl,h⟩
theorem Ok.chk {α:Type} {P:α→Prop} {b:Bool} {x:Option α} (h:b=true) (g:Ok P x):Ok P (bif b then x else none):=by subst h;exact g
theorem Ok.ite {α:Type} {P:α→Prop} {b:Bool} {x y:Option α} (g1:b=true→Ok P x) (g2:b=false→Ok P y):Ok P (bif b then x else y):=by
 cases b with
 | true=>exact g1 rfl
 | false=>exact g2 rfl
theorem Ok.iteT {α:Type} {P:α→Prop} {b:Bool} {x y:Option α} (h:b=true) (g:Ok P x):Ok P (bif b then x else y):=by subst h;exact g
theorem Ok.iteF {α:Type} {P:α→Prop} {b:Bool} {x y:Option α} (h:b=false) (g:Ok P y):Ok P (bif b then x else y):=by subst h;exact g
def Ok2 {α β:Type} (P:α→β→Prop) (o:Option (α×β)):Prop:=∃x y,o=some (x,y)∧P x y
theorem Ok.bind2 {α β γ:Type} {P:γ→Prop} {Q:α→β→Prop} {o:Option (α×β)} {f:α×β→Option γ} (h:Ok2 Q o) (g:∀x y,Q x y→Ok P (f (x,y))):Ok P (Option.bind o f):=by
 obtain⟨x,y,rfl,hx⟩:=h
 exact g x y hx
theorem Ok2.of {α β:Type} {Q:α→β→Prop} {o:Option (α×β)} (h:Ok (fun r=>Q r.1 r.2) o):Ok2 Q o:=by
 obtain⟨⟨x,y⟩,e,hx⟩:=h
 exact⟨x,y,e,hx⟩
theorem wrI (n:Int):I64 (IntKind.i64.wrap n):=by unfold I64;rw[IntKind.wrap_i64];omega
theorem LW.snoc {W:V→Prop} {l:List V} {x:V} (h:LW W l) (hl:l.length<9223372036854775807) (hx:W x):LW W (l++[x]):=by
 refine⟨by simp;omega,fun y hy=>?_⟩
 rcases List.mem_append.1 hy with hy | hy
 ·exact h.2 y hy
 ·simp at hy;subst hy;exact hx
theorem LW.set' {W:V→Prop} {l:List V} {x:V} (h:LW W l) (j:Nat) (hx:W x):LW W (l.set j x):=by
 refine⟨by simpa using h.1,fun y hy=>?_⟩
 rcases List.mem_or_eq_of_mem_set hy with hy | hy
 ·exact h.2 y hy
 ·subst hy;exact hx
theorem LW.rep {W:V→Prop} {n:Nat} {x:V} (hn:n≤9223372036854775807) (hx:W x):LW W (List.replicate n x):=
 ⟨by simpa using hn,fun y hy=>by rw[List.mem_replicate] at hy;rw[hy.2];exact hx⟩
theorem Zhj {i:Int} {n:Nat} (h0:0≤i) (h1:i<(n:Int)):Zn i n=true:=by simp[Zn];omega
theorem room_of {n b:Nat} (h:n*b≤140737488355328) (h1:n≤9223372036854775807):(Zv n b&&true)=true:=by rw[ZhK h h1];rfl
def allI:List V→Prop
 | []=>True
 | x :: l=>I64 (gi x 0)∧allI l
theorem ZoD:∀{l:List V},allI l→∀j,j<l.length→I64 (gi (rd l j) 0)
 | [],_,j,h=>by simp at h
 | x :: l,⟨h,_⟩,0,_=>h
 | x :: l,⟨_,h⟩,j+1,hj=>ZoD h j (by simpa using hj)
theorem gi_v0 (k:IntKind) (n:Int):gi (V.int k n) 0=n:=rfl
theorem LW.takeL {W:V→Prop} {l:List V} (h:LW W l) (n:Nat):LW W (l.take n):=⟨by have:=h.1;rw[List.length_take];omega,fun x hx=>h.2 x (List.mem_of_mem_take hx)⟩
theorem LW.dropL {W:V→Prop} {l:List V} (h:LW W l) (n:Nat):LW W (l.drop n):=⟨by have:=h.1;rw[List.length_drop];omega,fun x hx=>h.2 x (List.mem_of_mem_drop hx)⟩
theorem W_int.mk {n:Int} (h:I64 n):W_int (V.int .i64 n):=h
end Go.Eng.R
open Go Go.Eng
namespace Go.Eng.R
theorem Zi2 (a:Int) {b:Int} (h0:0≤b) (h1:b≤9223372036854775807):0≤bAnd .i64 a b∧bAnd .i64 a b≤b:=by
 unfold bAnd
 have e:(BitVec.ofInt (IntKind.bits .i64) b).toNat=b.toNat:=by
  rw[BitVec.toNat_ofInt]
  rw[Int.emod_eq_of_lt h0 (by show b<((2 ^ 64:Nat):Int);omega)]
 have h:(BitVec.ofInt (IntKind.bits .i64) a &&& BitVec.ofInt (IntKind.bits .i64) b).toNat≤b.toNat:=by
  rw[BitVec.toNat_and,e]
  exact Nat.and_le_right
 rw[Zax (by omega) (by omega)]
 omega
def ZP (c:V):Prop:=LW ZaB (gl c 0)∧0≤gi c 1∧gi c 1≤(((gl c 0).length:Nat):Int)
theorem ZeN {c:V} (h:ZP c):∃x c',Zcs (Zb c)=some (x,c')∧ZP c'∧0≤x∧x≤255∧gl c' 0=gl c 0:=by
 obtain⟨h1,h2,h3⟩:=h
 have hl:=h1.1
 unfold Zcs
 simp only[show gl (Zb c) 0=gl c 0 from rfl,show gi (Zb c) 1=gi c 1 from rfl]
 by_cases hc:gi c 1<(((gl c 0).length:Nat):Int)
 ·rw[decide_eq_true hc,show Zn (gi c 1) (gl c 0).length=true from by simp[Zn];omega]
  simp only[cond_true]
  refine⟨_,_,rfl,⟨h1,?_,?_⟩,(Zi2 _ (by decide) (by decide)).1,(Zi2 _ (by decide) (by decide)).2,rfl⟩
  ·show 0≤IntKind.i64.wrap (gi c 1+1)
   rw[Zax (by omega) (by omega)];omega
  ·show IntKind.i64.wrap (gi c 1+1)≤_
   rw[Zax (by omega) (by omega)];show gi c 1+1≤(((gl c 0).length:Nat):Int);omega
 ·rw[decide_eq_false hc]
  simp only[cond_false]
  exact⟨_,_,rfl,⟨h1,h2,h3⟩,(Zi2 _ (by decide) (by decide)).1,(Zi2 _ (by decide) (by decide)).2,rfl⟩
theorem Zi3 {x n:Int} (hx:0≤x) (hn:0<n):0≤x.tmod n∧x.tmod n<n:=by
 rw[Int.tmod_eq_emod_of_nonneg hx]
 exact⟨Int.emod_nonneg _ (by omega),Int.emod_lt_of_pos _ hn⟩
theorem ZhQ {c:V} (h:ZP c) {n:Int} (hn:0<n):∃x c',Zh (Zb c) n=some (x,c')∧ZP c'∧0≤x∧x<n:=by
 unfold Zh
 rw[decide_eq_false (p:=n≤0) (by omega),decide_eq_false (p:=n=0) (by omega)]
 simp only[cond_false,show Zb (Zb c)=Zb c from rfl]
 obtain⟨x,c',e,h',x0,x1,-⟩:=ZeN h
 by_cases h2:n≤256
 ·rw[decide_eq_true h2,e]
  exact⟨_,_,rfl,h',(Zi3 x0 hn).1,(Zi3 x0 hn).2⟩
 ·rw[decide_eq_false h2,e]
  obtain⟨x2,c2,e2,h2',y0,y1,-⟩:=ZeN h'
  obtain⟨x3,c3,e3,h3',z0',z1,-⟩:=ZeN h2'
  obtain⟨x4,c4,e4,h4',w0,w1,-⟩:=ZeN h3'
  simp only[Option.bind_some,e2,e3,e4,cond_false,Bool.not_false,cond_true]
  have hs:IntKind.i64.wrap (IntKind.i64.wrap (IntKind.i64.wrap (IntKind.i64.wrap (x*16777216)+IntKind.i64.wrap (x2*65536))+IntKind.i64.wrap (x3*256))+x4)=x*16777216+x2*65536+x3*256+x4:=by
   rw[Zax (n:=x*16777216) (by omega) (by omega),Zax (n:=x2*65536) (by omega) (by omega),Zax (n:=x3*256) (by omega) (by omega),Zax (n:=x*16777216+x2*65536) (by omega) (by omega),Zax (n:=x*16777216+x2*65536+x3*256) (by omega) (by omega),Zax (by omega) (by omega)]
  rw[hs]
  have hm:=Zi3 (x:=x*16777216+x2*65536+x3*256+x4) (by omega) hn
  exact⟨_,_,rfl,h4',hm.1,hm.2⟩
theorem Zlp {c:V} (h:ZP c) {l:List V} (hl:0<l.length):∃j c',ZN (Zb c) l=some (gi (rd l j) 0,c')∧ZP c'∧j<l.length:=by
 obtain⟨x,c',e,h',x0,x1⟩:=ZhQ h (n:=((l.length:Nat):Int)) (by omega)
 unfold ZN
 rw[show Zb (Zb c)=Zb c from rfl,e]
 simp only[Option.bind_some]
 rw[show Zn x l.length=true from by simp[Zn];omega]
 exact⟨x.toNat,_,rfl,h',by omega⟩
theorem new_ok {code:List V} (h:LW ZaB code):∃c,ZdC code=some c∧ZP c:=by
 unfold ZdC
 rw[Za0]
 have key:=Zca (F:=fun m s i=>Zch m code s i) (n:=code.length) (I:=fun _ _=>True) (Q:=fun r=>∃s,r=some (code,s)) ?_ ?_ (s:=IntKind.i64.wrap (36565+((code.length:Nat):Int))) trivial
 ·obtain⟨s,e⟩:=key
  refine⟨_,congrArg (fun o=>Option.bind o _) e,h,by show(0:Int)≤0;decide,by show(0:Int)≤((code.length:Nat):Int);omega⟩
 ·intro m i s hi _
  simp only[Zch,Zaj hi,Zq hi,cond_true,Zah hi h.1]
  by_cases h4:(i:Int)<4000
  ·rw[decide_eq_true h4];exact .inl ⟨_,rfl,trivial⟩
  ·rw[decide_eq_false h4];exact .inr ⟨_,rfl⟩
 ·intro m s _
  simp only[Zch,Zab,cond_false]
  exact⟨_,rfl⟩
theorem tmod_O {x n:Int} (h0:0≤x) (h1:0<n):0≤x.tmod n∧x.tmod n≤x∧x.tmod n<n:=by
 have:=Zi3 h0 h1
 refine⟨this.1,?_,this.2⟩
 rw[Int.tmod_eq_emod_of_nonneg h0]
 have h2:=Int.mul_ediv_add_emod x n
 have h3:0≤n*(x / n):=Int.mul_nonneg (by omega) (Int.ediv_nonneg h0 (by omega))
 omega
theorem Zlq {c:V} (h:ZP c) (n:Int):Ok (fun r=>ZP r.2∧0≤r.1∧r.1≤4294967295∧(r.1<n∨r.1=0)) (Zh (Zb c) n):=by
 by_cases hn:0<n
 ·unfold Zh
  rw[decide_eq_false (p:=n≤0) (by omega),decide_eq_false (p:=n=0) (by omega)]
  simp only[cond_false,show Zb (Zb c)=Zb c from rfl]
  obtain⟨x,c',e,h',x0,x1,-⟩:=ZeN h
  by_cases h2:n≤256
  ·rw[decide_eq_true h2,e]
   obtain⟨m0,m1,m2⟩:=tmod_O x0 hn
   exact⟨_,rfl,h',m0,by show x.tmod n≤_;omega, .inl m2⟩
  ·rw[decide_eq_false h2,e]
   obtain⟨x2,c2,e2,h2',y0,y1,-⟩:=ZeN h'
   obtain⟨x3,c3,e3,h3',z0',z1,-⟩:=ZeN h2'
   obtain⟨x4,c4,e4,h4',w0,w1,-⟩:=ZeN h3'
   simp only[Option.bind_some,e2,e3,e4,cond_false,Bool.not_false,cond_true]
   have hs:IntKind.i64.wrap (IntKind.i64.wrap (IntKind.i64.wrap (IntKind.i64.wrap (x*16777216)+IntKind.i64.wrap (x2*65536))+IntKind.i64.wrap (x3*256))+x4)=x*16777216+x2*65536+x3*256+x4:=by
    rw[Zax (n:=x*16777216) (by omega) (by omega),Zax (n:=x2*65536) (by omega) (by omega),Zax (n:=x3*256) (by omega) (by omega),Zax (n:=x*16777216+x2*65536) (by omega) (by omega),Zax (n:=x*16777216+x2*65536+x3*256) (by omega) (by omega),Zax (by omega) (by omega)]
   rw[hs]
   obtain⟨m0,m1,m2⟩:=tmod_O (x:=x*16777216+x2*65536+x3*256+x4) (by omega) hn
   exact⟨_,rfl,h4',m0,by show Int.tmod _ n≤_;omega, .inl m2⟩
 ·unfold Zh
  rw[decide_eq_true (p:=n≤0) (by omega)]
  exact⟨_,rfl,h,by show(0:Int)≤0;omega,by show(0:Int)≤4294967295;omega, .inr rfl⟩
theorem ZfF {c:V} (h:ZP c) (n:Int):Ok (fun r=>ZP r.2) (ZY (Zb c) n):=by
 obtain⟨x,e,h',-⟩:=Zlq h n
 unfold ZY
 rw[show Zb (Zb c)=Zb c from rfl,e]
 exact⟨_,rfl,h'⟩
theorem pick_O {c:V} (h:ZP c) {l:List V} (hl:0<l.length) (ha:allI l):Ok (fun r=>ZP r.2∧I64 r.1) (ZN (Zb c) l):=by
 obtain⟨j,c',e,h1,h2⟩:=Zlp h hl
 exact⟨_,e,h1,ZoD ha j h2⟩
theorem new_O {code:List V} (h:LW ZaB code):Ok ZP (ZdC code):=by
 obtain⟨c,e,h1⟩:=new_ok h
 exact⟨_,e,h1⟩
theorem nn_cur (c:V):Zb (Zb c)=Zb c:=rfl
theorem Zb1 {c:V} (h:ZP c) (n:Int):Ok2 (fun x c=>ZP c∧0≤x∧x≤4294967295∧(x<n∨x=0)) (Zh (Zb c) n):=.of (Zlq h n)
theorem ZfG {c:V} (h:ZP c) (n:Int):Ok2 (fun(x:Bool) c=>ZP c) (ZY (Zb c) n):=.of (ZfF h n)
theorem ZfH {c:V} (h:ZP c) {l:List V} (hl:0<l.length) (ha:allI l):Ok2 (fun x c=>ZP c∧I64 x) (ZN (Zb c) l):=.of (pick_O h hl ha)
end Go.Eng.R
open Go Go.Eng
namespace Go.Eng.R
set_option maxRecDepth 100000
def BS (l:List V):Prop:=LW ZaB l∧l.length≤20
def bsB (l:List V):Bool:=l.all (fun x=>decide (0≤gi x 0∧gi x 0≤255))&&decide (l.length≤20)
theorem Zgv {l:List V} (h:bsB l=true):BS l:=by
 unfold bsB at h
 simp only[Bool.and_eq_true,List.all_eq_true,decide_eq_true_eq] at h
 exact⟨⟨by omega,fun x hx=>h.1 x hx⟩,h.2⟩
theorem BS.nil:BS []:=Zgv rfl
def bsAll (l:List V):Bool:=l.all fun x=>bsB (gs x 0)
theorem bsAll_rd {l:List V} (h:bsAll l=true) {j:Nat} (hj:j<l.length):BS (gs (rd l j) 0):=by
 unfold bsAll at h
 rw[List.all_eq_true] at h
 refine Zgv (h _ ?_)
 rw[Zdg hj];exact List.getElem_mem hj
theorem ZpT {c:V} (h:ZP c):Ok2 (fun x c=>ZP c∧BS x) (Zcw (Zb c)):=by
 obtain⟨x,c',e,h',x0,x1⟩:=ZhQ h (n:=5) (by decide)
 unfold Zcw
 rw[show Zb (Zb c)=Zb c from rfl,e]
 simp only[Option.bind_some]
 rw[show Zn x 5=true from by simp[Zn];omega]
 obtain⟨j,rfl⟩:=Int.eq_ofNat_of_zero_le x0
 have hj:j=0∨j=1∨j=2∨j=3∨j=4:=by omega
 rcases hj with rfl | rfl | rfl | rfl | rfl <;> exact⟨_,_,rfl,h',Zgv rfl⟩
theorem ZpU {c:V} (h:ZP c):Ok2 (fun x c=>ZP c∧BS x) (Za7 (Zb c)):=by
 obtain⟨x,c',e,h',x0,x1⟩:=ZhQ h (n:=5) (by decide)
 unfold Za7
 rw[show Zb (Zb c)=Zb c from rfl,e]
 simp only[Option.bind_some]
 rw[show Zn x 5=true from by simp[Zn];omega]
 obtain⟨j,rfl⟩:=Int.eq_ofNat_of_zero_le x0
 have hj:j=0∨j=1∨j=2∨j=3∨j=4:=by omega
 rcases hj with rfl | rfl | rfl | rfl | rfl <;> exact⟨_,_,rfl,h',Zgv rfl⟩
end Go.Eng.R
open Go Go.Eng
namespace Go.Eng.R
set_option maxRecDepth 100000
structure SD where
 idx:Int
 rows:List V
 tombs:List V
 lost:Int
 sess:List V
 lasts:List V
def SD.v (s:SD):V:=V.agg [(V.int .i64 s.idx),(V.inl Zg s.rows),(V.inl Zf s.tombs),(V.int .i64 s.lost),(V.inl Za s.sess),(V.inl Ze s.lasts)]
def SD.b (s:SD) (a b c d:Nat):V:=V.agg [(V.int .i64 s.idx),(V.sl a Zg 0 none),(V.sl b Zf 0 none),(V.int .i64 s.lost),(V.sl c Za 0 none),(V.sl d Ze 0 none)]
def Za5 (k v:List V) (t h:Int):V:=V.agg [(V.inl Zc k),(V.inl Zc v),(V.int .i64 t),(V.int .i64 h)]
def Zc3 (k:List V) (i:Int):V:=V.agg [(V.inl Zc k),(V.int .i64 i)]
def ZhR (i:Int) (d:Bool):V:=V.agg [(V.int .i64 i),(V.bool d)]
def Zi4 (c r co i:Int):V:=V.agg [(V.int .i64 c),(V.int .i64 r),(V.int .i64 co),(V.int .i64 i)]
def Zas (l:List V) (i:Nat):List V:=l.take i++l.drop (i+1)
def Zan (l:List V) (i:Nat) (x:V):List V:=l.take i++[x]++l.drop i
theorem Zde {l:List V} {i:Nat} (h:i<l.length):(Zas l i).length=l.length-1:=by unfold Zas;rw[List.length_append,List.length_take,List.length_drop];omega
theorem Zc4 {l:List V} {i:Nat} {x:V} (h:i≤l.length):(Zan l i x).length=l.length+1:=by unfold Zan;rw[List.length_append,List.length_append,List.length_take,List.length_drop,List.length_singleton];omega
theorem Zbr {l:List V} {j:Nat} (h:j<l.length) (x:V):rd (l.set j x) j=x:=by simp[rd,List.getD,h]
theorem Zei {l:List V} {i j:Nat} (h:j≠i) (x:V):rd (l.set i x) j=rd l j:=by simp[rd,List.getD,List.getElem?_set,Ne.symm h]
theorem Z4 {n b:Nat} (h:n*b≤140737488355328) (h1:n≤9223372036854775807):(Zv n b&&true)=true:=by rw[ZhK h h1];rfl
theorem leT {i n:Nat} (h:i≤n):(decide ((0:Int)≤(i:Int))&&decide ((i:Int)≤((n:Nat):Int)))=true:=by
 rw[decide_eq_true (show(0:Int)≤(i:Int) by omega),decide_eq_true (show(i:Int)≤((n:Nat):Int) by omega)];rfl
theorem Zi5 (l:List V) (n:Nat):(l.drop n).take (l.length-n)=l.drop n:=List.take_of_length_le (by rw[List.length_drop];exact Nat.le_refl _)
def ZbP (l:List V) (k:List V):Nat:=match Zt (fun i=>!nlt (gl (rd l i) 0) k) 0 l.length with | some j=>j | none=>l.length
def SD.bury (s:SD) (i:Nat):SD:=
 bif decide (10<s.tombs.length+1) then { s with rows:=Zas s.rows i,tombs:=(s.tombs++[Zc3 (gl (rd s.rows i) 0) s.idx]).drop 1,lost:=gi (rd (s.tombs++[Zc3 (gl (rd s.rows i) 0) s.idx]) 0) 1 }
 else { s with rows:=Zas s.rows i,tombs:=s.tombs++[Zc3 (gl (rd s.rows i) 0) s.idx] }
theorem ZiD {s:SD} {i:Nat} (hi:i<s.rows.length) (hr:s.rows.length≤1000) (ht:s.tombs.length≤9):Zdq s.v (i:Int)=some (s.bury i).v:=by
 unfold Zdq
 have e1:IntKind.i64.wrap ((i:Int)+1)=((i+1:Nat):Int):=by rw[Zax (by omega) (by omega)];omega
 simp only[show gl s.v 1=s.rows from rfl,show gl s.v 2=s.tombs from rfl,show gl s.v 4=s.sess from rfl,show gl s.v 5=s.lasts from rfl,show gi s.v 0=s.idx from rfl,show gi s.v 3=s.lost from rfl,e1,Zq hi,leT (Nat.le_of_lt hi),leT (show i+1≤s.rows.length from hi),Int.toNat_natCast,Nat.zero_add,Zi5,cond_true,List.length_take,List.length_drop]
 rw[Z4 (by omega) (by omega),Z4 (by omega) (by omega),Z4 (by omega) (by omega),Z4 (by omega) (by omega)]
 simp only[cond_true]
 have hl:(s.tombs++[V.agg [V.inl Zc (gl (rd s.rows i) 0),V.int .i64 s.idx]]).length=s.tombs.length+1:=by rw[List.length_append,List.length_singleton]
 have e2:∀n,Zco (n+1) (s.b 1 2 3 4) (Zas s.rows i) (s.tombs++[V.agg [V.inl Zc (gl (rd s.rows i) 0),V.int .i64 s.idx]]) s.sess s.lasts=some (s.b 1 2 3 4,Zas s.rows i,s.tombs++[V.agg [V.inl Zc (gl (rd s.rows i) 0),V.int .i64 s.idx]],s.sess,s.lasts):=fun n=>by
  rw[Zco,hl,show decide ((10:Int)<((s.tombs.length+1:Nat):Int))=false from decide_eq_false (by omega)];rfl
 refine Eq.trans (congrArg (fun o=>Option.bind o _) (show _=_ from e2 _)) ?_
 unfold SD.bury
 rw[decide_eq_false (show ¬10<s.tombs.length+1 by omega)]
 rfl
def SD.put (s:SD) (key val:List V):Bool×SD:=
 match Zt (fun i=>neq (gl (rd s.rows i) 0) key) 0 s.rows.length with
 | some j=>(true,{ s with rows:=s.rows.set j (Za5 (gl (rd s.rows j) 0) val s.idx (gi (rd s.rows j) 3)) })
 | none=>bif decide (20≤s.rows.length) then(false,s) else
  (true,{ s with rows:=Zan s.rows (ZbP s.rows key) (Za5 key val s.idx 0),tombs:=match Zt (fun i=>neq (gl (rd s.tombs i) 0) key) 0 s.tombs.length with | some j=>Zas s.tombs j | none=>s.tombs })
theorem Zej {l k:List V} {j:Nat} (h:Zt (fun i=>neq (gl (rd l i) 0) k) 0 l.length=some j):fK l k=(j:Int):=by unfold fK;rw[h]
theorem Zff {l k:List V} (h:Zt (fun i=>neq (gl (rd l i) 0) k) 0 l.length=none):fK l k = -1:=by unfold fK;rw[h]
theorem Zc5 {l k:List V} {j:Nat} (h:Zt (fun i=>neq (gl (rd l i) 0) k) 0 l.length=some j):j<l.length:=by
 have:=Z8 h;omega
theorem Zf3 (l k:List V):ZbP l k≤l.length:=by
 unfold ZbP
 cases h:Zt (fun i=>!nlt (gl (rd l i) 0) k) 0 l.length with
 | none=>exact Nat.le_refl _
 | some j=>have:=Z8 h;show j≤_;omega
theorem Znr {s:SD} {key val:List V} {r1 r2 r3 r4:List V} (hr:r1.length≤1000):Zae (r1.length+1) key val 0 (s.b 1 2 3 4) r1 r2 r3 r4=some (key,val,((ZbP r1 key:Nat):Int),s.b 1 2 3 4,r1,r2,r3,r4):=by
 unfold ZbP
 rw[show(0:Int)=((0:Nat):Int) from rfl,Zdw (F:=fun m i=>Zae m key val i (s.b 1 2 3 4) r1 r2 r3 r4) (n:=r1.length) (q:=fun i=>!nlt (gl (rd r1 i) 0) key) (out:=fun j=>some (key,val,j,s.b 1 2 3 4,r1,r2,r3,r4)) (no:=some (key,val,((r1.length:Nat):Int),s.b 1 2 3 4,r1,r2,r3,r4)) ?_ ?_ (r1.length+1) 0 (by omega) (by omega),Nat.sub_zero]
 ·cases Zt (fun i=>!nlt (gl (rd r1 i) 0) key) 0 r1.length <;> rfl
 ·intro m i hi
  show Zae (m+1) key val (i:Int) (s.b 1 2 3 4) r1 r2 r3 r4=_
  rw[Zae]
  simp only[Zaj hi,Zq hi,Int.toNat_natCast,Nat.zero_add,cond_true,Zah hi (show r1.length≤9223372036854775807 by omega),nlt_def]
  cases nlt (gl (rd r1 i) 0) key <;> rfl
 ·intro m
  show Zae (m+1) key val ((r1.length:Nat):Int) (s.b 1 2 3 4) r1 r2 r3 r4=_
  rw[Zae,Zab];rfl
theorem Zjz {s:SD} {key val:List V} (hr:s.rows.length≤1000) (ht:s.tombs.length≤1000) (hk:key.length≤1000) (hv:val.length≤1000):Zat s.v key val=some ((s.put key val).1,(s.put key val).2.v):=by
 have er:Zbq (Zd s.v) key=some (fK s.rows key):=ZfP (s:=s.v) (show s.rows.length≤_ by omega) key
 have et:Zer (Zd s.v) key=some (fK s.tombs key):=Zlo (s:=s.v) (show s.tombs.length≤_ by omega) key
 unfold Zat SD.put
 rw[er]
 cases hf:Zt (fun i=>neq (gl (rd s.rows i) 0) key) 0 s.rows.length with
 | some j=>
  have hj:=Zc5 hf
  rw[Zej hf]
  simp only[Option.bind_some,show gl s.v 1=s.rows from rfl,Int.toNat_natCast,Nat.zero_add,List.length_set,Zq hj,Zbr hj,List.set_set,cond_true]
  rw[decide_eq_true (show(0:Int)≤(j:Int) by omega),Z4 (by omega) (by omega)]
  rfl
 | none=>
  rw[Zff hf]
  simp only[Option.bind_some,show gl s.v 1=s.rows from rfl,show gl s.v 2=s.tombs from rfl,show gl s.v 4=s.sess from rfl,show gl s.v 5=s.lasts from rfl,et]
  rw[show decide ((0:Int)≤-1)=false from rfl]
  simp only[cond_false]
  by_cases h20:20≤s.rows.length
  ·rw[decide_eq_true h20,show decide ((20:Int)≤((s.rows.length:Nat):Int))=true from decide_eq_true (by omega)];rfl
  rw[decide_eq_false h20,show decide ((20:Int)≤((s.rows.length:Nat):Int))=false from decide_eq_false (by omega)]
  simp only[cond_false]
  have hg:=Zf3 s.rows key
  have tail:∀(tb:List V),(Option.bind (Zae (((((s.rows).length:Nat):Int)-0).toNat+1) key val 0 (s.b 1 2 3 4) s.rows tb s.sess s.lasts) fun r=>
    bif ((decide ((0:Int)≤r.2.2.1))&&(decide (r.2.2.1≤((r.2.2.2.2.1.length:Nat):Int)))) then
     bif ((Zv (0+((r.2.2.2.2.1.take r.2.2.1.toNat).length)) 64)&&true) then
      bif ((Zv (0+r.1.length) 1)&&true) then
       bif ((Zv (0+r.2.1.length) 1)&&true) then
        bif ((Zv (((r.2.2.2.2.1.take r.2.2.1.toNat).length)+1) 64)&&true) then
         bif ((decide ((0:Int)≤r.2.2.1))&&(decide (r.2.2.1≤((r.2.2.2.2.1.length:Nat):Int)))) then
          bif ((Zv ((((r.2.2.2.2.1.take r.2.2.1.toNat)++[(V.agg [(V.inl Zc r.1),(V.inl Zc r.2.1),(V.int .i64 (gi r.2.2.2.1 0)),(V.int .i64 0)])]).length)+(((r.2.2.2.2.1.drop (0+r.2.2.1.toNat)).take (r.2.2.2.2.1.length-r.2.2.1.toNat)).length)) 64)&&true) then
           some (true,(V.agg [(V.int .i64 (gi r.2.2.2.1 0)),(V.inl Zg (((r.2.2.2.2.1.take r.2.2.1.toNat)++[(V.agg [(V.inl Zc r.1),(V.inl Zc r.2.1),(V.int .i64 (gi r.2.2.2.1 0)),(V.int .i64 0)])])++((r.2.2.2.2.1.drop (0+r.2.2.1.toNat)).take (r.2.2.2.2.1.length-r.2.2.1.toNat)))),(V.inl Zf r.2.2.2.2.2.1),(V.int .i64 (gi r.2.2.2.1 3)),(V.inl Za r.2.2.2.2.2.2.1),(V.inl Ze r.2.2.2.2.2.2.2)]))
          else none
         else none
        else none
       else none
      else none
     else none
    else none)=some (true,({ s with rows:=Zan s.rows (ZbP s.rows key) (Za5 key val s.idx 0),tombs:=tb }:SD).v):=fun tb=>by
   rw[Za0,Znr hr]
   simp only[Option.bind_some,Int.toNat_natCast,Nat.zero_add,Zi5,List.length_append,List.length_take,List.length_drop,List.length_singleton]
   rw[leT hg,Z4 (by omega) (by omega),Z4 (by omega) (by omega),Z4 (by omega) (by omega),Z4 (by omega) (by omega),Z4 (by omega) (by omega)]
   rfl
  cases hft:Zt (fun i=>neq (gl (rd s.tombs i) 0) key) 0 s.tombs.length with
  | none=>
   rw[Zff hft,show decide ((0:Int)≤-1)=false from rfl]
   exact tail s.tombs
  | some j=>
   have hj:=Zc5 hft
   have e1:IntKind.i64.wrap ((j:Int)+1)=((j+1:Nat):Int):=by rw[Zax (by omega) (by omega)];omega
   rw[Zej hft,decide_eq_true (show(0:Int)≤(j:Int) by omega)]
   simp only[cond_true,e1,Int.toNat_natCast,Nat.zero_add,Zi5,List.length_take,List.length_drop,Bool.true_and,decide_eq_true (show(j:Int)≤((s.tombs.length:Nat):Int) by omega),leT (show j+1≤s.tombs.length from hj)]
   rw[Z4 (by omega) (by omega),Z4 (by omega) (by omega)]
   have t2:=tail (Zas s.tombs j)
   simp only[Int.toNat_natCast,Nat.zero_add,Zi5,List.length_take,List.length_drop] at t2
   exact t2
end Go.Eng.R
open Go Go.Eng
namespace Go.Eng.R
set_option maxRecDepth 100000
theorem Zns {s:SD} {i:Nat} (hi:i<s.rows.length) (ht:s.tombs.length≤9):s.bury i={ s with rows:=Zas s.rows i,tombs:=s.tombs++[Zc3 (gl (rd s.rows i) 0) s.idx] }:=by
 unfold SD.bury;rw[decide_eq_false (show ¬10<s.tombs.length+1 by omega)];rfl
theorem ZpV {s:SD} {i:Nat} (hi:i<s.rows.length) (ht:s.tombs.length≤9):(s.bury i).rows.length=s.rows.length-1∧(s.bury i).tombs.length=s.tombs.length+1:=by
 rw[Zns hi ht]
 exact⟨Zde hi,by show(s.tombs++[_]).length=_;rw[List.length_append,List.length_singleton]⟩
def SD.shutL (id:Int) (del:Bool):Nat→Nat→SD→SD
 | 0,_,s=>s
 | n+1,k,s=>bif decide (k<s.rows.length) then
   bif !decide (gi (rd s.rows k) 3=id) then SD.shutL id del n (k+1) s
   else bif del then SD.shutL id del n k (s.bury k)
   else SD.shutL id del n (k+1) { s with rows:=s.rows.set k (Za5 (gl (rd s.rows k) 0) (gl (rd s.rows k) 1) s.idx 0) }
  else s
def SD.shut (s:SD) (i:Nat):SD:=SD.shutL (gi (rd s.sess i) 0) (gb (rd s.sess i) 1) s.rows.length 0 { s with sess:=Zas s.sess i }
theorem ZeA {id:Int} {del:Bool}:∀(n k:Nat) (s:SD),k≤s.rows.length→s.rows.length-k≤n→s.rows.length+s.tombs.length≤9→∀m,s.rows.length-k<m→
  Zaz m (k:Int) (s.b 2 3 4 5) (ZhR id del) s.rows s.tombs s.sess s.lasts=some ((SD.shutL id del n k s).b 1 2 3 4,(SD.shutL id del n k s).rows,(SD.shutL id del n k s).tombs,(SD.shutL id del n k s).sess,(SD.shutL id del n k s).lasts)
 | n,k,s,hk,hn,hb,0,hm=>by omega
 | 0,k,s,hk,hn,hb,m+1,hm=>by
  obtain rfl:k=s.rows.length:=by omega
  rw[Zaz,Zab];rfl
 | n+1,k,s,hk,hn,hb,m+1,hm=>by
  by_cases h:k<s.rows.length
  case neg=>
   obtain rfl:k=s.rows.length:=by omega
   rw[Zaz,Zab,SD.shutL,decide_eq_false h];rfl
  rw[Zaz,SD.shutL,decide_eq_true h]
  simp only[Zaj h,Zq h,Nat.zero_add,Int.toNat_natCast,cond_true,show gi (ZhR id del) 0=id from rfl,show gb (ZhR id del) 1=del from rfl,Zah h (show s.rows.length≤9223372036854775807 by omega)]
  by_cases hh:gi (rd s.rows k) 3=id
  case neg=>
   rw[decide_eq_false hh]
   exact ZeA n (k+1) s (by omega) (by omega) hb m (by omega)
  rw[decide_eq_true hh]
  cases del with
  | true=>
   obtain⟨l1,l2⟩:=ZpV h (by omega)
   simp only[Bool.not_true,cond_false,cond_true]
   refine Eq.trans (congrArg (fun o=>Option.bind o _) (show _=_ from ZiD h (by omega) (by omega))) ?_
   have e1:IntKind.i64.wrap (IntKind.i64.wrap ((k:Int)-1)+1)=(k:Int):=by rw[Zax (n:=(k:Int)-1) (by omega) (by omega),Zax (by omega) (by omega)];omega
   rw[e1]
   exact ZeA n k (s.bury k) (by omega) (by omega) (by omega) m (by omega)
  | false=>
   simp only[Bool.not_true,cond_false,List.length_set,Zq h,cond_true,Zbr h,List.set_set]
   exact ZeA n (k+1) { s with rows:=s.rows.set k (Za5 (gl (rd s.rows k) 0) (gl (rd s.rows k) 1) s.idx 0) } (by show k+1≤(s.rows.set k _).length;rw[List.length_set];omega) (by show(s.rows.set k _).length-(k+1)≤n;rw[List.length_set];omega) (by show(s.rows.set k _).length+_≤9;rw[List.length_set];exact hb) m (by show(s.rows.set k _).length-(k+1)<m;rw[List.length_set];omega)
theorem ZiE {s:SD} {i:Nat} (hi:i<s.sess.length) (hs:s.sess.length≤1000) (hb:s.rows.length+s.tombs.length≤9):Zdr s.v (i:Int)=some (s.shut i).v:=by
 unfold Zdr
 have e1:IntKind.i64.wrap ((i:Int)+1)=((i+1:Nat):Int):=by rw[Zax (by omega) (by omega)];omega
 simp only[show gl s.v 1=s.rows from rfl,show gl s.v 2=s.tombs from rfl,show gl s.v 4=s.sess from rfl,show gl s.v 5=s.lasts from rfl,e1,Zq hi,leT (Nat.le_of_lt hi),leT (show i+1≤s.sess.length from hi),Int.toNat_natCast,Nat.zero_add,cond_true,List.length_take,List.length_drop]
 rw[Z4 (by omega) (by omega),Z4 (by omega) (by omega)]
 simp only[cond_true]
 rw[Za0]
 refine Eq.trans (congrArg (fun o=>Option.bind o _) (show _=_ from ZeA (id:=gi (rd s.sess i) 0) (del:=gb (rd s.sess i) 1) s.rows.length 0 { s with sess:=Zas s.sess i } (Nat.zero_le _) (by show s.rows.length-0≤_;omega) hb (s.rows.length+1) (by show s.rows.length-0<_;omega))) ?_
 rfl
def SD.look (s:SD) (key:List V):Option Nat:=bif decide (0<key.length) then Zt (fun i=>neq (gl (rd s.rows i) 0) key) 0 s.rows.length else none
def SD.sessAt (s:SD) (id:Int):Option Nat:=Zt (fun i=>decide (gi (rd s.sess i) 0=id)) 0 s.sess.length
def Zeb (b:Bool):Int:=bif b then 0 else 4
def SD.hold (s:SD) (key:List V) (n:Int):SD:=match Zt (fun i=>neq (gl (rd s.rows i) 0) key) 0 s.rows.length with
 | some j=>{ s with rows:=s.rows.set j (Za5 (gl (rd s.rows j) 0) (gl (rd s.rows j) 1) (gi (rd s.rows j) 2) n) }
 | none=>s
def SD.puts (s:SD) (key val:List V):Int×SD:=(Zeb (s.put key val).1,(s.put key val).2)
def SD.do' (s:SD) (k:Int) (key val:List V) (n:Int):Int×SD:=
 bif decide (k=1) then s.puts key val
 else bif decide (k=2) then
  bif decide ((match s.look key with | some j=>gi (rd s.rows j) 2 | none=>0)=n) then s.puts key val else(3,s)
 else bif decide (k=3) then(match s.look key with | some j=>(0,s.bury j) | none=>(1,s))
 else bif decide (k=4) then bif decide (8≤s.sess.length) then(4,s) else(0,{ s with sess:=s.sess++[ZhR s.idx (decide (n=1))] })
 else bif decide (k=5) then(match s.sessAt n with | some i=>(0,s.shut i) | none=>(1,s))
 else bif decide (k=6) then(match s.sessAt n with
  | none=>(1,s)
  | some _=>bif (match s.look key with | some j=>!decide (gi (rd s.rows j) 3=0) && !decide (gi (rd s.rows j) 3=n) | none=>false) then(2,s)
   else bif (s.put key val).1 then(0,(s.put key val).2.hold key n) else(4,(s.put key val).2))
 else bif decide (k=7) then(match s.look key with
  | some j=>bif decide (gi (rd s.rows j) 3=n) then(0,{ s with rows:=s.rows.set j (Za5 (gl (rd s.rows j) 0) (gl (rd s.rows j) 1) s.idx 0) }) else(1,s)
  | none=>(1,s))
 else(0,s)
theorem ZeH (a:List V):neq a a=true:=by rw[ZcD];exact decide_eq_true rfl
theorem Zi6 {l:List V} {i:Nat} {x:V} (h:i≤l.length):rd (Zan l i x) i=x:=by
 unfold Zan
 have:(l.take i).length=i:=by rw[List.length_take];omega
 simp[rd,List.getD,List.getElem?_append,this]
theorem ZpW {s:SD} {key val:List V} (h:(s.put key val).1=true):∃j,Zt (fun i=>neq (gl (rd (s.put key val).2.rows i) 0) key) 0 (s.put key val).2.rows.length=some j∧j<(s.put key val).2.rows.length:=by
 have fin:∀(l:List V) (i:Nat),i<l.length→neq (gl (rd l i) 0) key=true→∃j,Zt (fun i=>neq (gl (rd l i) 0) key) 0 l.length=some j∧j<l.length:=fun l i hi hn=>by
  cases hf:Zt (fun i=>neq (gl (rd l i) 0) key) 0 l.length with
  | none=>have:=firstI_none.1 hf i (Nat.zero_le _) (by omega);rw[hn] at this;cases this
  | some j=>exact⟨j,rfl,Zc5 hf⟩
 revert h
 unfold SD.put
 cases hf:Zt (fun i=>neq (gl (rd s.rows i) 0) key) 0 s.rows.length with
 | some j=>
  intro _
  have hj:=Zc5 hf
  have hq:=(Z8 hf).2.2.1
  refine fin (s.rows.set j _) j (by rw[List.length_set];exact hj) ?_
  rw[Zbr hj];exact hq
 | none=>
  cases decide (20≤s.rows.length) with
  | true=>intro h;cases h
  | false=>
   intro _
   have hg:=Zf3 s.rows key
   refine fin (Zan s.rows (ZbP s.rows key) _) (ZbP s.rows key) (by rw[Zc4 hg];omega) ?_
   rw[Zi6 hg];exact ZeH key
theorem put_len {s:SD} {key val:List V}:(s.put key val).2.rows.length≤s.rows.length+1∧(s.put key val).2.tombs.length≤s.tombs.length:=by
 unfold SD.put
 cases hf:Zt (fun i=>neq (gl (rd s.rows i) 0) key) 0 s.rows.length with
 | some j=>exact⟨by show(s.rows.set j _).length≤_;rw[List.length_set];omega,Nat.le_refl _⟩
 | none=>
  cases decide (20≤s.rows.length) with
  | true=>exact⟨Nat.le_succ _,Nat.le_refl _⟩
  | false=>
   refine⟨by show(Zan s.rows _ _).length≤_;rw[Zc4 (Zf3 _ _)];omega,?_⟩
   cases hft:Zt (fun i=>neq (gl (rd s.tombs i) 0) key) 0 s.tombs.length with
   | none=>exact Nat.le_refl _
   | some j=>show(Zas s.tombs j).length≤_;rw[Zde (Zc5 hft)];omega
theorem Zf8 {l:List V} {n:Int} {j:Nat} (h:Zt (fun i=>decide (gi (rd l i) 0=n)) 0 l.length=some j):fI l n=(j:Int):=by unfold fI;rw[h]
theorem Zf9 {l:List V} {n:Int} (h:Zt (fun i=>decide (gi (rd l i) 0=n)) 0 l.length=none):fI l n = -1:=by unfold fI;rw[h]
end Go.Eng.R
open Go Go.Eng
namespace Go.Eng.R
set_option maxRecDepth 100000
theorem dF {p:Prop} [Decidable p] (h:¬p):decide p=false:=decide_eq_false h
theorem dT {p:Prop} [Decidable p] (h:p):decide p=true:=decide_eq_true h
theorem putP {s:SD} {key val:List V} (hr:s.rows.length≤1000) (ht:s.tombs.length≤1000) (hk:key.length≤1000) (hv:val.length≤1000):
  (Option.bind (Zat (Zd s.v) key val) fun r=>bif (!r.1) then some ((4:Int),(Zd r.2)) else some (0,(Zd r.2)))=some ((s.puts key val).1,(s.puts key val).2.v):=by
 refine Eq.trans (congrArg (fun o=>Option.bind o _) (show _=_ from Zjz hr ht hk hv)) ?_
 unfold SD.puts Zeb
 cases(s.put key val).1 <;> rfl
theorem takeP {s:SD} {key val:List V} {n:Int} (hr:s.rows.length≤999) (ht:s.tombs.length≤1000) (hk:key.length≤1000) (hv:val.length≤1000):
  (Option.bind (Zat (Zd s.v) key val) fun r=>bif (!r.1) then some ((4:Int),(Zd r.2)) else Option.bind (Zbq (Zd r.2) key) fun q=>
   bif (Zn q ((gl r.2 1).length)) then some (0,(V.agg [(V.int .i64 (gi r.2 0)),(V.inl Zg ((gl r.2 1).set (0+q.toNat) (V.agg [(V.inl Zc (gl (rd (gl r.2 1) (0+q.toNat)) 0)),(V.inl Zc (gl (rd (gl r.2 1) (0+q.toNat)) 1)),(V.int .i64 (gi (rd (gl r.2 1) (0+q.toNat)) 2)),(V.int .i64 n)]))),(V.inl Zf (gl r.2 2)),(V.int .i64 (gi r.2 3)),(V.inl Za (gl r.2 4)),(V.inl Ze (gl r.2 5))])) else none) =
  (bif (s.put key val).1 then some (0,((s.put key val).2.hold key n).v) else some (4,(s.put key val).2.v)):=by
 refine Eq.trans (congrArg (fun o=>Option.bind o _) (show _=_ from Zjz (by omega) ht hk hv)) ?_
 have hl:=put_len (s:=s) (key:=key) (val:=val)
 have hfd:=ZpW (s:=s) (key:=key) (val:=val)
 revert hl hfd
 generalize s.put key val=q
 obtain⟨b,q⟩:=q
 intro hl hfd
 cases b with
 | false=>rfl
 | true=>
  obtain⟨j,hf,hj⟩:=hfd rfl
  have hj:j<q.rows.length:=hj
  have er:Zbq (Zd (Zd q.v)) key=some (fK q.rows key):=ZfP (s:=q.v) (show q.rows.length≤_ by have:=hl.1;dsimp only at this;omega) key
  simp only[Option.bind_some,Bool.not_true,cond_false,cond_true]
  refine Eq.trans (congrArg (fun o=>Option.bind o _) (show _=some (fK q.rows key) from er)) ?_
  rw[Zej hf]
  simp only[Option.bind_some,Int.toNat_natCast,Nat.zero_add,show gl q.v 1=q.rows from rfl,Zq hj,cond_true]
  unfold SD.hold
  rw[show Zt (fun i=>neq (gl (rd q.rows i) 0) key) 0 q.rows.length=some j from hf]
  rfl
theorem Zoc {s:SD} {o:V} (hs:s.sess.length≤1000) (hb:s.rows.length+s.tombs.length≤9) (hk:(gl o 1).length≤1000) (hv:(gl o 2).length≤1000) (hk0:0<(gl o 1).length):
  Zbm s.v o=some ((s.do' (gi o 0) (gl o 1) (gl o 2) (gi o 3)).1,(s.do' (gi o 0) (gl o 1) (gl o 2) (gi o 3)).2.v):=by
 have er:Zbq (Zd s.v) (gl o 1)=some (fK s.rows (gl o 1)):=ZfP (s:=s.v) (show s.rows.length≤_ by omega) _
 have es:Zb9 (Zd s.v) (gi o 3)=some (fI s.sess (gi o 3)):=Zhi (s:=s.v) (show s.sess.length≤_ by omega) _
 have pp:=putP (s:=s) (key:=gl o 1) (val:=gl o 2) (by omega) (by omega) hk hv
 have tp:=takeP (s:=s) (key:=gl o 1) (val:=gl o 2) (n:=gi o 3) (by omega) (by omega) hk hv
 unfold Zbm SD.do' SD.look SD.sessAt
 rw[dT hk0,dT (show(0:Int)<(((gl o 1).length:Nat):Int) by omega)]
 simp only[cond_true,er,es,Option.bind_some,show gl s.v 1=s.rows from rfl,show gl s.v 2=s.tombs from rfl,show gl s.v 4=s.sess from rfl,show gl s.v 5=s.lasts from rfl,show gi s.v 0=s.idx from rfl,show gi s.v 3=s.lost from rfl]
 generalize gl o 1=key at *
 generalize gl o 2=val at *
 generalize gi o 3=n at *
 generalize gi o 0=k
 by_cases h1:k=1
 ·rw[dT h1];exact pp
 rw[dF h1]
 by_cases h2:k=2
 ·rw[dT h2]
  simp only[cond_false,cond_true]
  cases hf:Zt (fun i=>neq (gl (rd s.rows i) 0) key) 0 s.rows.length with
  | none=>
   rw[Zff hf,show decide ((0:Int)≤-1)=false from rfl]
   simp only[cond_false]
   by_cases hn:(0:Int)=n
   ·rw[dT hn];exact pp
   ·rw[dF hn];rfl
  | some j=>
   have hj:=Zc5 hf
   rw[Zej hf,dT (show(0:Int)≤(j:Int) by omega),Zq hj]
   simp only[cond_true,Nat.zero_add,Int.toNat_natCast]
   by_cases hn:gi (rd s.rows j) 2=n
   ·rw[dT hn];exact pp
   ·rw[dF hn];rfl
 rw[dF h2]
 by_cases h3:k=3
 ·rw[dT h3]
  simp only[cond_false,cond_true]
  cases hf:Zt (fun i=>neq (gl (rd s.rows i) 0) key) 0 s.rows.length with
  | none=>rw[Zff hf];rfl
  | some j=>
   have hj:=Zc5 hf
   rw[Zej hf,dF (show ¬(j:Int)<0 by omega)]
   simp only[cond_false]
   refine Eq.trans (congrArg (fun o=>Option.bind o _) (show _=_ from ZiD hj (by omega) (by omega))) ?_
   rfl
 rw[dF h3]
 by_cases h4:k=4
 ·rw[dT h4]
  simp only[cond_false,cond_true]
  by_cases h8:8≤s.sess.length
  ·rw[dT h8,dT (show(8:Int)≤((s.sess.length:Nat):Int) by omega)];rfl
  ·rw[dF h8,dF (show ¬(8:Int)≤((s.sess.length:Nat):Int) by omega),Z4 (by omega) (by omega),Z4 (by omega) (by omega)];rfl
 rw[dF h4]
 by_cases h5:k=5
 ·rw[dT h5]
  simp only[cond_false,cond_true]
  cases hf:Zt (fun i=>decide (gi (rd s.sess i) 0=n)) 0 s.sess.length with
  | none=>rw[Zf9 hf];rfl
  | some j=>
   have hj:=(Z8 hf).2.1
   rw[Zf8 hf,dF (show ¬(j:Int)<0 by omega)]
   simp only[cond_false]
   refine Eq.trans (congrArg (fun o=>Option.bind o _) (show _=_ from ZiE (by omega) hs hb)) ?_
   rfl
 rw[dF h5]
 by_cases h6:k=6
 ·rw[dT h6]
  simp only[cond_false,cond_true]
  cases hf:Zt (fun i=>decide (gi (rd s.sess i) 0=n)) 0 s.sess.length with
  | none=>rw[Zf9 hf];rfl
  | some j=>
   rw[Zf8 hf,dF (show ¬(j:Int)<0 by omega)]
   simp only[cond_false]
   have fin:(bif (s.put key val).1 then some ((0:Int),((s.put key val).2.hold key n).v) else some (4,(s.put key val).2.v))=some ((bif (s.put key val).1 then((0:Int),(s.put key val).2.hold key n) else(4,(s.put key val).2)).1,(bif (s.put key val).1 then((0:Int),(s.put key val).2.hold key n) else(4,(s.put key val).2)).2.v):=by
    cases(s.put key val).1 <;> rfl
   cases hr:Zt (fun i=>neq (gl (rd s.rows i) 0) key) 0 s.rows.length with
   | none=>
    rw[Zff hr,show decide ((0:Int)≤-1)=false from rfl]
    exact tp.trans fin
   | some i=>
    have hi:=Zc5 hr
    rw[Zej hr,dT (show(0:Int)≤(i:Int) by omega),Zq hi]
    simp only[cond_true,Nat.zero_add,Int.toNat_natCast]
    simp only[Nat.zero_add] at tp
    by_cases hz:gi (rd s.rows i) 3=0
    ·rw[dT hz];exact tp.trans fin
    rw[dF hz]
    by_cases hn:gi (rd s.rows i) 3=n
    ·rw[dT hn];exact tp.trans fin
    ·rw[dF hn];rfl
 rw[dF h6]
 by_cases h7:k=7
 ·rw[dT h7]
  simp only[cond_false,cond_true]
  cases hf:Zt (fun i=>neq (gl (rd s.rows i) 0) key) 0 s.rows.length with
  | none=>rw[Zff hf];rfl
  | some j=>
   have hj:=Zc5 hf
   rw[Zej hf,dF (show ¬(j:Int)<0 by omega),Zq hj]
   simp only[cond_true,cond_false,Nat.zero_add,Int.toNat_natCast,List.length_set,Zq hj,Zbr hj,List.set_set]
   by_cases hn:gi (rd s.rows j) 3=n
   ·rw[dT hn];rfl
   ·rw[dF hn];rfl
 rw[dF h7]
 rfl
theorem Zpb {s:SD} {o:V} (hs:s.sess.length≤1000) (hb:s.rows.length+s.tombs.length≤9) (hk:(gl o 1).length≤1000) (hv:(gl o 2).length≤1000) (hk0:¬0<(gl o 1).length):
  Zbm s.v o=some ((s.do' (gi o 0) (gl o 1) (gl o 2) (gi o 3)).1,(s.do' (gi o 0) (gl o 1) (gl o 2) (gi o 3)).2.v):=by
 have es:Zb9 (Zd s.v) (gi o 3)=some (fI s.sess (gi o 3)):=Zhi (s:=s.v) (show s.sess.length≤_ by omega) _
 have pp:=putP (s:=s) (key:=gl o 1) (val:=gl o 2) (by omega) (by omega) hk hv
 have tp:=takeP (s:=s) (key:=gl o 1) (val:=gl o 2) (n:=gi o 3) (by omega) (by omega) hk hv
 unfold Zbm SD.do' SD.look SD.sessAt
 rw[dF hk0,dF (show ¬(0:Int)<(((gl o 1).length:Nat):Int) by omega)]
 simp only[cond_false,es,Option.bind_some,show gl s.v 1=s.rows from rfl,show gl s.v 2=s.tombs from rfl,show gl s.v 4=s.sess from rfl,show gl s.v 5=s.lasts from rfl,show gi s.v 0=s.idx from rfl,show gi s.v 3=s.lost from rfl]
 generalize gl o 1=key at *
 generalize gl o 2=val at *
 generalize gi o 3=n at *
 generalize gi o 0=k
 by_cases h1:k=1
 ·rw[dT h1];exact pp
 rw[dF h1]
 by_cases h2:k=2
 ·rw[dT h2]
  simp only[cond_false,cond_true]
  by_cases hn:(0:Int)=n
  ·rw[dT hn];exact pp
  ·rw[dF hn];rfl
 rw[dF h2]
 by_cases h3:k=3
 ·rw[dT h3];rfl
 rw[dF h3]
 by_cases h4:k=4
 ·rw[dT h4]
  simp only[cond_false,cond_true]
  by_cases h8:8≤s.sess.length
  ·rw[dT h8,dT (show(8:Int)≤((s.sess.length:Nat):Int) by omega)];rfl
  ·rw[dF h8,dF (show ¬(8:Int)≤((s.sess.length:Nat):Int) by omega),Z4 (by omega) (by omega),Z4 (by omega) (by omega)];rfl
 rw[dF h4]
 by_cases h5:k=5
 ·rw[dT h5]
  simp only[cond_false,cond_true]
  cases hf:Zt (fun i=>decide (gi (rd s.sess i) 0=n)) 0 s.sess.length with
  | none=>rw[Zf9 hf];rfl
  | some j=>
   have hj:=(Z8 hf).2.1
   rw[Zf8 hf,dF (show ¬(j:Int)<0 by omega)]
   simp only[cond_false]
   refine Eq.trans (congrArg (fun o=>Option.bind o _) (show _=_ from ZiE (by omega) hs hb)) ?_
   rfl
 rw[dF h5]
 by_cases h6:k=6
 ·rw[dT h6]
  simp only[cond_false,cond_true]
  cases hf:Zt (fun i=>decide (gi (rd s.sess i) 0=n)) 0 s.sess.length with
  | none=>rw[Zf9 hf];rfl
  | some j=>
   rw[Zf8 hf,dF (show ¬(j:Int)<0 by omega)]
   simp only[cond_false]
   refine tp.trans ?_
   cases(s.put key val).1 <;> rfl
 rw[dF h6]
 by_cases h7:k=7
 ·rw[dT h7];rfl
 rw[dF h7]
 rfl
theorem Zpc {s:SD} {o:V} (hs:s.sess.length≤1000) (hb:s.rows.length+s.tombs.length≤9) (hk:(gl o 1).length≤1000) (hv:(gl o 2).length≤1000):
  Zbm s.v o=some ((s.do' (gi o 0) (gl o 1) (gl o 2) (gi o 3)).1,(s.do' (gi o 0) (gl o 1) (gl o 2) (gi o 3)).2.v):=by
 by_cases h:0<(gl o 1).length
 ·exact Zoc hs hb hk hv h
 ·exact Zpb hs hb hk hv h
end Go.Eng.R
open Go Go.Eng
namespace Go.Eng.R
set_option maxRecDepth 100000
theorem ZpX (s:SD) (key val:List V):(s.put key val).2.lasts=s.lasts:=by
 unfold SD.put
 cases Zt (fun i=>neq (gl (rd s.rows i) 0) key) 0 s.rows.length with
 | some j=>rfl
 | none=>cases decide (20≤s.rows.length) <;> rfl
theorem ZkY (s:SD) (i:Nat):(s.bury i).lasts=s.lasts:=by
 unfold SD.bury;cases decide (10<s.tombs.length+1) <;> rfl
theorem Zfv (id:Int) (del:Bool):∀(n k:Nat) (s:SD),(SD.shutL id del n k s).lasts=s.lasts
 | 0,_,_=>rfl
 | n+1,k,s=>by
  rw[SD.shutL]
  cases decide (k<s.rows.length) with
  | false=>rfl
  | true=>
   cases decide (gi (rd s.rows k) 3=id) with
   | false=>exact Zfv id del n (k+1) s
   | true=>
    cases del with
    | true=>exact(Zfv id true n k (s.bury k)).trans (ZkY s k)
    | false=>exact Zfv id false n (k+1) _
theorem Zpd (s:SD) (key:List V) (n:Int):(s.hold key n).lasts=s.lasts:=by
 unfold SD.hold;cases Zt (fun i=>neq (gl (rd s.rows i) 0) key) 0 s.rows.length <;> rfl
theorem ZjO (s:SD) (k:Int) (key val:List V) (n:Int):(s.do' k key val n).2.lasts=s.lasts:=by
 have hp:=ZpX s key val
 unfold SD.do'
 cases decide (k=1) with
 | true=>exact hp
 | false=>
 cases decide (k=2) with
 | true=>
  show(bif _ then s.puts key val else(3,s)).2.lasts=_
  cases decide ((match s.look key with | some j=>gi (rd s.rows j) 2 | none=>0)=n) with
  | true=>exact hp
  | false=>rfl
 | false=>
 cases decide (k=3) with
 | true=>
  show(match s.look key with | some j=>((0:Int),s.bury j) | none=>(1,s)).2.lasts=_
  cases s.look key with
  | some j=>exact ZkY s j
  | none=>rfl
 | false=>
 cases decide (k=4) with
 | true=>
  show(bif decide (8≤s.sess.length) then((4:Int),s) else(0,{ s with sess:=s.sess++[ZhR s.idx (decide (n=1))] })).2.lasts=_
  cases decide (8≤s.sess.length) <;> rfl
 | false=>
 cases decide (k=5) with
 | true=>
  show(match s.sessAt n with | some i=>((0:Int),s.shut i) | none=>(1,s)).2.lasts=_
  cases s.sessAt n with
  | some i=>exact Zfv _ _ _ _ _
  | none=>rfl
 | false=>
 cases decide (k=6) with
 | true=>
  show(match s.sessAt n with
   | none=>((1:Int),s)
   | some _=>bif (match s.look key with | some j=>!decide (gi (rd s.rows j) 3=0) && !decide (gi (rd s.rows j) 3=n) | none=>false) then(2,s)
    else bif (s.put key val).1 then(0,(s.put key val).2.hold key n) else(4,(s.put key val).2)).2.lasts=_
  cases s.sessAt n with
  | none=>rfl
  | some i=>
   cases(match s.look key with | some j=>!decide (gi (rd s.rows j) 3=0) && !decide (gi (rd s.rows j) 3=n) | none=>false) with
   | true=>rfl
   | false=>
    show(bif (s.put key val).1 then((0:Int),(s.put key val).2.hold key n) else(4,(s.put key val).2)).2.lasts=_
    cases(s.put key val).1 with
    | true=>exact(Zpd _ _ _).trans hp
    | false=>exact hp
 | false=>
 cases decide (k=7) with
 | true=>
  show(match s.look key with
   | some j=>bif decide (gi (rd s.rows j) 3=n) then((0:Int),{ s with rows:=s.rows.set j (Za5 (gl (rd s.rows j) 0) (gl (rd s.rows j) 1) s.idx 0) }) else(1,s)
   | none=>(1,s)).2.lasts=_
  cases s.look key with
  | none=>rfl
  | some j=>
   dsimp only
   by_cases hn:gi (rd s.rows j) 3=n
   ·rw[dT hn];rfl
   ·rw[dF hn];rfl
 | false=>rfl
def Za9 (l:List V) (c:Int):Nat:=match Zt (fun i=>!decide (gi (rd l i) 0<c)) 0 l.length with | some j=>j | none=>l.length
theorem ZkZ (l:List V) (c:Int):Za9 l c≤l.length:=by
 unfold Za9
 cases h:Zt (fun i=>!decide (gi (rd l i) 0<c)) 0 l.length with
 | none=>exact Nat.le_refl _
 | some j=>have:=Z8 h;show j≤_;omega
def SD.up (s:SD):SD:={ s with idx:=s.idx+1 }
def SD.apply (s:SD) (c:V):(Int×Int)×SD:=
 bif decide (gi c 0<0) then((0,s.idx+1),s.up)
 else bif decide (Za9 s.lasts (gi c 0)<s.lasts.length)&&decide (gi (rd s.lasts (Za9 s.lasts (gi c 0))) 0=gi c 0) then
  bif decide (gi (rd s.lasts (Za9 s.lasts (gi c 0))) 1=gi c 1) then((gi (rd s.lasts (Za9 s.lasts (gi c 0))) 2,gi (rd s.lasts (Za9 s.lasts (gi c 0))) 3),s.up)
  else bif decide (gi c 1<gi (rd s.lasts (Za9 s.lasts (gi c 0))) 1) then((5,s.idx+1),s.up)
  else(((s.up.do' (gi c 2) (gl c 3) (gl c 4) (gi c 5)).1,s.idx+1),{ (s.up.do' (gi c 2) (gl c 3) (gl c 4) (gi c 5)).2 with lasts:=s.lasts.set (Za9 s.lasts (gi c 0)) (Zi4 (gi (rd s.lasts (Za9 s.lasts (gi c 0))) 0) (gi c 1) (s.up.do' (gi c 2) (gl c 3) (gl c 4) (gi c 5)).1 (s.idx+1)) })
 else(((s.up.do' (gi c 2) (gl c 3) (gl c 4) (gi c 5)).1,s.idx+1),{ (s.up.do' (gi c 2) (gl c 3) (gl c 4) (gi c 5)).2 with lasts:=Zan s.lasts (Za9 s.lasts (gi c 0)) (Zi4 (gi c 0) (gi c 1) (s.up.do' (gi c 2) (gl c 3) (gl c 4) (gi c 5)).1 (s.idx+1)) })
theorem Zmd {s:SD} {c b2 b3:V} {r4 r5 r6 r7:List V} (hr:r7.length≤1000):Zar (r7.length+1) 0 (s.b 4 5 6 7) (Zl c) (ZA b2) (ZA b3) r4 r5 r6 r7=some (((Za9 r7 (gi c 0):Nat):Int),s.b 4 5 6 7,Zl c,ZA b2,ZA b3,r4,r5,r6,r7):=by
 unfold Za9
 rw[show(0:Int)=((0:Nat):Int) from rfl,Zdw (F:=fun m i=>Zar m i (s.b 4 5 6 7) (Zl c) (ZA b2) (ZA b3) r4 r5 r6 r7) (n:=r7.length) (q:=fun i=>!decide (gi (rd r7 i) 0<gi c 0)) (out:=fun j=>some (j,s.b 4 5 6 7,Zl c,ZA b2,ZA b3,r4,r5,r6,r7)) (no:=some (((r7.length:Nat):Int),s.b 4 5 6 7,Zl c,ZA b2,ZA b3,r4,r5,r6,r7)) ?_ ?_ (r7.length+1) 0 (by omega) (by omega),Nat.sub_zero]
 ·cases Zt (fun i=>!decide (gi (rd r7 i) 0<gi c 0)) 0 r7.length <;> rfl
 ·intro m i hi
  show Zar (m+1) (i:Int) (s.b 4 5 6 7) (Zl c) (ZA b2) (ZA b3) r4 r5 r6 r7=_
  rw[Zar]
  simp only[Zaj hi,Zq hi,Int.toNat_natCast,Nat.zero_add,cond_true,Zah hi (show r7.length≤9223372036854775807 by omega),show gi (Zl c) 0=gi c 0 from rfl]
  cases decide (gi (rd r7 i) 0<gi c 0) <;> rfl
 ·intro m
  show Zar (m+1) ((r7.length:Nat):Int) (s.b 4 5 6 7) (Zl c) (ZA b2) (ZA b3) r4 r5 r6 r7=_
  rw[Zar,Zab];rfl
theorem Zme {s:SD} {c:V} (hi0 : -10000000≤s.idx) (hi1:s.idx≤10000000) (hs:s.sess.length≤1000) (hl:s.lasts.length≤1000) (hb:s.rows.length+s.tombs.length≤9) (hk:(gl c 3).length≤1000) (hv:(gl c 4).length≤1000):
  ZK s.v c=some (V.agg [(V.int .i64 (s.apply c).1.1),(V.int .i64 (s.apply c).1.2)],(s.apply c).2.v):=by
 have hdo:=Zpc (s:=s.up) (o:=V.agg [(V.int .i64 (gi c 2)),(V.inl Zc (gl c 3)),(V.inl Zc (gl c 4)),(V.int .i64 (gi c 5))]) hs hb hk hv
 have hdl:=ZjO s.up (gi c 2) (gl c 3) (gl c 4) (gi c 5)
 have hcl:=ZkZ s.lasts (gi c 0)
 unfold ZK SD.apply
 simp only[show gl s.v 1=s.rows from rfl,show gl s.v 2=s.tombs from rfl,show gl s.v 4=s.sess from rfl,show gl s.v 5=s.lasts from rfl,show gi s.v 0=s.idx from rfl,show gi s.v 3=s.lost from rfl]
 rw[Zax (n:=s.idx+1) (by omega) (by omega)]
 by_cases h0:gi c 0<0
 ·rw[dT h0];rfl
 rw[dF h0]
 simp only[cond_false]
 rw[Za0]
 refine Eq.trans (congrArg (fun o=>Option.bind o _) (show _=_ from Zmd (s:=s.up) (c:=c) (b2:=V.agg [(V.int .i64 0),(V.int .i64 0)]) (b3:=V.agg [(V.int .i64 0),(V.int .i64 (s.idx+1))]) hl)) ?_
 simp only[Option.bind_some]
 generalize Za9 s.lasts (gi c 0)=k at *
 have hdo':Zbm (V.agg [(V.int .i64 (gi (s.up.b 4 5 6 7) 0)),(V.inl Zg s.rows),(V.inl Zf s.tombs),(V.int .i64 (gi (s.up.b 4 5 6 7) 3)),(V.inl Za s.sess),(V.inl Ze s.lasts)]) (V.agg [(V.int .i64 (gi (Zl c) 2)),(V.inl Zc (gl (Zl c) 3)),(V.inl Zc (gl (Zl c) 4)),(V.int .i64 (gi (Zl c) 5))])=some ((s.up.do' (gi c 2) (gl c 3) (gl c 4) (gi c 5)).1,(s.up.do' (gi c 2) (gl c 3) (gl c 4) (gi c 5)).2.v):=hdo
 have new:(Option.bind (Zbm (V.agg [(V.int .i64 (gi (s.up.b 4 5 6 7) 0)),(V.inl Zg s.rows),(V.inl Zf s.tombs),(V.int .i64 (gi (s.up.b 4 5 6 7) 3)),(V.inl Za s.sess),(V.inl Ze s.lasts)]) (V.agg [(V.int .i64 (gi (Zl c) 2)),(V.inl Zc (gl (Zl c) 3)),(V.inl Zc (gl (Zl c) 4)),(V.int .i64 (gi (Zl c) 5))])) fun r=>
   bif ((decide ((0:Int)≤(k:Int)))&&(decide ((k:Int)≤(((gl r.2 5).length:Nat):Int)))) then
    bif ((Zv (0+(((gl r.2 5).take (k:Int).toNat).length)) 32)&&true) then
     bif ((Zv ((((gl r.2 5).take (k:Int).toNat).length)+1) 32)&&true) then
      bif ((decide ((0:Int)≤(k:Int)))&&(decide ((k:Int)≤(((gl r.2 5).length:Nat):Int)))) then
       bif ((Zv (((((gl r.2 5).take (k:Int).toNat)++[(V.agg [(V.int .i64 (gi (Zl c) 0)),(V.int .i64 (gi (Zl c) 1)),(V.int .i64 r.1),(V.int .i64 (gi (ZA (V.agg [(V.int .i64 0),(V.int .i64 (s.idx+1))])) 1))])]).length)+(((gl r.2 5).drop (0+(k:Int).toNat)).length)) 32)&&true) then
        some ((V.agg [(V.int .i64 r.1),(V.int .i64 (gi (ZA (V.agg [(V.int .i64 0),(V.int .i64 (s.idx+1))])) 1))]),(V.agg [(V.int .i64 (gi r.2 0)),(V.inl Zg (gl r.2 1)),(V.inl Zf (gl r.2 2)),(V.int .i64 (gi r.2 3)),(V.inl Za (gl r.2 4)),(V.inl Ze ((((gl r.2 5).take (k:Int).toNat)++[(V.agg [(V.int .i64 (gi (Zl c) 0)),(V.int .i64 (gi (Zl c) 1)),(V.int .i64 r.1),(V.int .i64 (gi (ZA (V.agg [(V.int .i64 0),(V.int .i64 (s.idx+1))])) 1))])])++((gl r.2 5).drop (0+(k:Int).toNat))))]))
       else none
      else none
     else none
    else none
   else none)=some (V.agg [(V.int .i64 (s.up.do' (gi c 2) (gl c 3) (gl c 4) (gi c 5)).1),(V.int .i64 (s.idx+1))],({ (s.up.do' (gi c 2) (gl c 3) (gl c 4) (gi c 5)).2 with lasts:=Zan s.lasts k (Zi4 (gi c 0) (gi c 1) (s.up.do' (gi c 2) (gl c 3) (gl c 4) (gi c 5)).1 (s.idx+1)) }:SD).v):=by
  rw[hdo']
  revert hdl
  generalize s.up.do' (gi c 2) (gl c 3) (gl c 4) (gi c 5)=q
  obtain⟨co,q⟩:=q
  intro hdl
  have hdl:q.lasts=s.lasts:=hdl
  simp only[Option.bind_some,show gl q.v 5=q.lasts from rfl,hdl,Int.toNat_natCast,Nat.zero_add,List.length_append,List.length_take,List.length_drop,List.length_singleton]
  rw[leT hcl,Z4 (by omega) (by omega),Z4 (by omega) (by omega),Z4 (by omega) (by omega)]
  rfl
 by_cases hk1:k<s.lasts.length
 case neg=>
  rw[dF hk1,dF (show ¬(k:Int)<((s.lasts.length:Nat):Int) by omega)]
  exact new
 rw[dT hk1,dT (show(k:Int)<((s.lasts.length:Nat):Int) by omega),Zq hk1]
 simp only[cond_true,Bool.true_and,Nat.zero_add,Int.toNat_natCast]
 by_cases hk2:gi (rd s.lasts k) 0=gi c 0
 case neg=>
  rw[dF hk2,show decide (gi (rd s.lasts k) 0=gi (Zl c) 0)=false from dF hk2]
  simp only[Nat.zero_add,Int.toNat_natCast] at new
  exact new
 rw[dT hk2,show decide (gi (rd s.lasts k) 0=gi (Zl c) 0)=true from dT hk2]
 simp only[cond_true]
 by_cases hk3:gi (rd s.lasts k) 1=gi c 1
 ·rw[dT hk3,show decide (gi (rd s.lasts k) 1=gi (Zl c) 1)=true from dT hk3];rfl
 rw[dF hk3,show decide (gi (rd s.lasts k) 1=gi (Zl c) 1)=false from dF hk3]
 simp only[cond_false]
 by_cases hk4:gi c 1<gi (rd s.lasts k) 1
 ·rw[dT hk4,show decide (gi (Zl c) 1<gi (rd s.lasts k) 1)=true from dT hk4];rfl
 rw[dF hk4,show decide (gi (Zl c) 1<gi (rd s.lasts k) 1)=false from dF hk4]
 simp only[cond_false]
 rw[hdo']
 revert hdl
 generalize s.up.do' (gi c 2) (gl c 3) (gl c 4) (gi c 5)=q
 obtain⟨co,q⟩:=q
 intro hdl
 have hdl:q.lasts=s.lasts:=hdl
 simp only[Option.bind_some,show gl q.v 5=q.lasts from rfl,hdl,List.length_set,Zq hk1,Zbr hk1,List.set_set,cond_true]
 rfl
end Go.Eng.R
open Go Go.Eng
namespace Go.Eng.R
set_option maxRecDepth 100000
def K5:List (List V):=[[(V.int .u8 97)],[(V.int .u8 98)],[(V.int .u8 99)],[(V.int .u8 97),(V.int .u8 47),(V.int .u8 98)],[(V.int .u8 100)]]
theorem Zi7 {k:List V} (h:k∈K5):BS k:=by
 simp only[K5,List.mem_cons,List.not_mem_nil,or_false] at h
 rcases h with rfl | rfl | rfl | rfl | rfl <;> exact Zgv rfl
theorem K5_neq {a b:List V} (ha:a∈K5) (hb:b∈K5) (h:neq a b=true):a=b:=by
 simp only[K5,List.mem_cons,List.not_mem_nil,or_false] at ha hb
 rcases ha with rfl | rfl | rfl | rfl | rfl <;> rcases hb with rfl | rfl | rfl | rfl | rfl <;> first | rfl | (exact absurd h (by decide))
theorem ZlQ {c:V} (h:ZP c):Ok2 (fun x c=>ZP c∧x∈K5) (Za7 (Zb c)):=by
 obtain⟨x,c',e,h',x0,x1⟩:=ZhQ h (n:=5) (by decide)
 unfold Za7
 rw[show Zb (Zb c)=Zb c from rfl,e]
 simp only[Option.bind_some]
 rw[show Zn x 5=true from by simp[Zn];omega]
 obtain⟨j,rfl⟩:=Int.eq_ofNat_of_zero_le x0
 have hj:j=0∨j=1∨j=2∨j=3∨j=4:=by omega
 rcases hj with rfl | rfl | rfl | rfl | rfl
 ·exact⟨_,_,rfl,h',List.mem_cons_self ..⟩
 ·exact⟨_,_,rfl,h',List.mem_cons_of_mem _ (List.mem_cons_self ..)⟩
 ·exact⟨_,_,rfl,h',List.mem_cons_of_mem _ (List.mem_cons_of_mem _ (List.mem_cons_self ..))⟩
 ·exact⟨_,_,rfl,h',List.mem_cons_of_mem _ (List.mem_cons_of_mem _ (List.mem_cons_of_mem _ (List.mem_cons_self ..)))⟩
 ·exact⟨_,_,rfl,h',List.mem_cons_of_mem _ (List.mem_cons_of_mem _ (List.mem_cons_of_mem _ (List.mem_cons_of_mem _ (List.mem_cons_self ..))))⟩
def opN (k:Int):Prop:=k≠1∧k≠2∧k≠6
def D_Op (x:V):Prop:=(gl x 1∈K5∨(gl x 1=[]∧opN (gi x 0)))∧BS (gl x 2)∧I64 (gi x 0)∧I64 (gi x 3)
set_option maxHeartbeats 2000000 in
theorem op_K {c:V} (h:ZP c) (i:Int):Ok2 (fun x c=>ZP c∧D_Op x) (ZfC (Zb c) i):=by
 unfold ZfC
 refine .of ?_
 obtain⟨j,c',e,h1,hj⟩:=Zlp h (l:=[(V.int .i64 1),(V.int .i64 1),(V.int .i64 1),(V.int .i64 2),(V.int .i64 3),(V.int .i64 3),(V.int .i64 4),(V.int .i64 5),(V.int .i64 6),(V.int .i64 6),(V.int .i64 7),(V.int .i64 0)]) (by decide)
 have hv:gi (rd [(V.int .i64 1),(V.int .i64 1),(V.int .i64 1),(V.int .i64 2),(V.int .i64 3),(V.int .i64 3),(V.int .i64 4),(V.int .i64 5),(V.int .i64 6),(V.int .i64 6),(V.int .i64 7),(V.int .i64 0)] j) 0∈[(0:Int),1,2,3,4,5,6,7]:=by
  have hj':j∈List.range 12:=List.mem_range.2 hj
  revert j
  intro j _ _ hj
  have key:∀j∈List.range 12,gi (rd [(V.int .i64 1),(V.int .i64 1),(V.int .i64 1),(V.int .i64 2),(V.int .i64 3),(V.int .i64 3),(V.int .i64 4),(V.int .i64 5),(V.int .i64 6),(V.int .i64 6),(V.int .i64 7),(V.int .i64 0)] j) 0∈[(0:Int),1,2,3,4,5,6,7]:=by decide
  exact key j hj
 rw[nn_cur,e]
 refine Ok.bind2 (Q:=fun a b=>a=gi (rd [(V.int .i64 1),(V.int .i64 1),(V.int .i64 1),(V.int .i64 2),(V.int .i64 3),(V.int .i64 3),(V.int .i64 4),(V.int .i64 5),(V.int .i64 6),(V.int .i64 6),(V.int .i64 7),(V.int .i64 0)] j) 0∧b=c') ⟨_,_,rfl,rfl,rfl⟩ ?_
 rintro a b ⟨ha,rfl⟩
 rw[←ha] at hv
 clear ha e
 simp only[List.mem_cons,List.not_mem_nil,or_false] at hv
 rcases hv with rfl | rfl | rfl | rfl | rfl | rfl | rfl | rfl
 all_goals ((repeat' (((with_reducible refine(id ?_:Ok _ _));first | (with_reducible refine Ok.chk (by(first | (refine Zhj ?_ ?_ <;> (try simp only[List.length_set,List.length_append,List.length_cons,List.length_nil,List.length_replicate,Nat.zero_add]) <;> omega) | (refine room_of ?_ ?_ <;> (try simp only[List.length_set,List.length_append,List.length_cons,List.length_nil,List.length_replicate,Nat.zero_add]) <;> omega) | assumption | (simp;done) | (simp;omega))) ?_) | ((with_reducible refine Ok.iteT ?_ ?_);(next=>first | exact decide_eq_true (by with_reducible rfl) | (refine congrArg not (decide_eq_false ?_);intro h;revert h;dsimp only;decide))) | ((with_reducible refine Ok.iteF ?_ ?_);(next=>first | (refine decide_eq_false ?_;intro h;revert h;dsimp only;decide) | exact congrArg not (decide_eq_true (by with_reducible rfl)))) | (with_reducible refine Ok.ite (fun _=>?_) (fun _=>?_) <;> (rename_i h;try simp only[decide_eq_true_eq,decide_eq_false_iff_not,Bool.not_eq_true',Bool.not_eq_false',Int.not_lt,Int.not_le] at h)) | (first | (((with_reducible refine Ok.bind2 (ZlQ (by assumption)) ?_);rintro _ _ ⟨_,_⟩)) | (((with_reducible refine Ok.bind2 (ZpU (by assumption)) ?_);rintro _ _ ⟨_,_⟩)) | (((with_reducible refine Ok.bind2 (ZpT (by assumption)) ?_);rintro _ _ ⟨_,_⟩)) | (((with_reducible refine Ok.bind2 (ZfH (by assumption) ?_ ?_) ?_);(next=>exact Nat.succ_pos _);(next=>repeat' (first | trivial | ((repeat' (first | dsimp only[ZkJ,ZkL,ZkK,ZkM,gi_v0] | with_reducible assumption | with_reducible exact wrI _ | (unfold I64;constructor <;> omega) | omega | (simp only[List.length_set,List.length_append,List.length_cons,List.length_nil,List.length_take,List.length_drop];omega) | with_reducible refine LW.set' ?_ _ ?_ | with_reducible refine LW.snoc ?_ ?_ ?_ | with_reducible refine LW.takeL ?_ _ | with_reducible refine LW.dropL ?_ _ | with_reducible refine W_int.mk ?_ | assumption));done) | refine And.intro ?_ ?_));rintro _ _ ⟨_,_⟩)) | (((with_reducible refine Ok.bind2 (Zb1 (by assumption) _) ?_);rintro _ _ ⟨_,_,_,_⟩))) | with_reducible refine Ok.ret ?_))))
 all_goals (refine⟨by assumption,?_,?_,?_,?_⟩ <;> (try dsimp only[ZkJ,ZkL,ZkK,ZkM]) <;> first | exact .inr ⟨rfl,by decide,by decide,by decide⟩ | (refine .inl ?_;assumption) | with_reducible assumption | with_reducible exact wrI _ | with_reducible exact BS.nil | ((unfold I64;constructor <;> omega)) | assumption)
open Classical in
theorem ZiF {α:Type}:∀(K l:List α),l.Nodup→(∀x∈l,x∈K)→l.length≤K.length
 | [],l,_,h=>by
  cases l with
  | nil=>exact Nat.le_refl _
  | cons a l=>have:=h a (by simp);cases this
 | k :: K,l,hn,h=>by
  by_cases hk:k∈l
  ·have e:=List.length_erase_of_mem hk
   have:=ZiF K (l.erase k) (hn.erase k) fun x hx=>by
    have h1:=(hn.mem_erase_iff).1 hx
    rcases List.mem_cons.1 (h x h1.2) with h2 | h2
    ·exact absurd h2 h1.1
    ·exact h2
   simp only[List.length_cons]
   omega
  ·have:=ZiF K l hn fun x hx=>by
    rcases List.mem_cons.1 (h x hx) with h2 | h2
    ·subst h2;exact absurd hx hk
    ·exact h2
   simp only[List.length_cons]
   omega
theorem Zx {l:List V} {i:Nat} (h:i<l.length):rd l i∈l:=by simp[rd,List.getD,h]
theorem Zfg {l:List V} {i:Nat} (h:i<l.length):l.Perm (rd l i :: Zas l i):=by
 have e:l=l.take i++rd l i :: l.drop (i+1):=by
  have h1:rd l i=l[i]:=by simp[rd,List.getD,h]
  rw[h1,List.getElem_cons_drop,List.take_append_drop]
 unfold Zas
 exact(List.Perm.of_eq e).trans List.perm_middle
theorem ZhS (l:List V) (i:Nat) (x:V):(Zan l i x).Perm (x :: l):=by
 unfold Zan
 rw[List.append_assoc]
 refine List.perm_middle.trans ?_
 show(x :: (l.take i++l.drop i)).Perm (x :: l)
 rw[List.take_append_drop]
theorem ZbE {l:List V} {i:Nat} {x:V} (h:x∈Zas l i):x∈l:=by
 unfold Zas at h
 rcases List.mem_append.1 h with h | h
 ·exact List.mem_of_mem_take h
 ·exact List.mem_of_mem_drop h
theorem ZeO {l:List V} {i:Nat} {x y:V} (h:y∈Zan l i x):y=x∨y∈l:=by
 have:=(ZhS l i x).mem_iff.1 h
 simpa using this
theorem ZiG {f:V→List V} {l:List V} {j:Nat} {x:V} (hj:j<l.length) (h:f x=f (rd l j)):(l.set j x).map f=l.map f:=by
 rw[List.map_set]
 have e:f x=(l.map f)[j]'(by rw[List.length_map];exact hj):=by
  rw[h,List.getElem_map]
  simp[rd,List.getD,hj]
 rw[e,List.set_getElem_self]
def Zaw (x:V):List V:=gl x 0
structure DI (s:SD) (n:Nat):Prop where
 idx0:0≤s.idx
 idx1:s.idx≤(n:Int)
 rows:∀r∈s.rows,gl r 0∈K5∧BS (gl r 1)∧I64 (gi r 2)∧I64 (gi r 3)
 tombs:∀r∈s.tombs,gl r 0∈K5∧I64 (gi r 1)
 lost:I64 s.lost
 sessL:s.sess.length≤8
 sess:∀x∈s.sess,I64 (gi x 0)
 lastsL:s.lasts.length≤n
 lasts:∀x∈s.lasts,I64 (gi x 0)∧I64 (gi x 1)∧I64 (gi x 2)∧I64 (gi x 3)
 nd:(s.rows.map Zaw++s.tombs.map Zaw).Nodup
theorem Zk0:I64 0:=⟨by decide,by decide⟩
theorem DI.few {s:SD} {n:Nat} (h:DI s n):s.rows.length+s.tombs.length≤5:=by
 have:=ZiF K5 _ h.nd fun k hk=>by
  rcases List.mem_append.1 hk with hk | hk
  ·obtain⟨r,hr,rfl⟩:=List.mem_map.1 hk;exact(h.rows r hr).1
  ·obtain⟨r,hr,rfl⟩:=List.mem_map.1 hk;exact(h.tombs r hr).1
 rw[List.length_append,List.length_map,List.length_map] at this
 exact this
theorem DI.idxI {s:SD} {n:Nat} (h:DI s n) (hn:n≤1000):I64 s.idx:=⟨by have:=h.idx0;omega,by have:=h.idx1;omega⟩
theorem DI.bury {s:SD} {n:Nat} (h:DI s n) (hn:n≤1000) {i:Nat} (hi:i<s.rows.length):DI (s.bury i) n:=by
 have hf:=h.few
 rw[Zns hi (by omega)]
 refine⟨h.idx0,h.idx1,fun r hr=>h.rows r (ZbE hr),fun r hr=>?_,h.lost,h.sessL,h.sess,h.lastsL,h.lasts,?_⟩
 ·rcases List.mem_append.1 hr with hr | hr
  ·exact h.tombs r hr
  ·rw[List.mem_singleton.1 hr];exact⟨(h.rows _ (Zx hi)).1,h.idxI hn⟩
 ·have hp:(s.rows.map Zaw++s.tombs.map Zaw).Perm ((Zas s.rows i).map Zaw++(s.tombs++[Zc3 (gl (rd s.rows i) 0) s.idx]).map Zaw):=by
   have h1:(s.rows.map Zaw).Perm (Zaw (rd s.rows i) :: (Zas s.rows i).map Zaw):=(Zfg hi).map Zaw
   refine(h1.append_right _).trans ?_
   rw[List.map_append,List.map_singleton,show Zaw (Zc3 (gl (rd s.rows i) 0) s.idx)=Zaw (rd s.rows i) from rfl,←List.append_assoc]
   exact(List.perm_append_singleton _ _).symm
  exact hp.nodup h.nd
theorem DI.put {s:SD} {n:Nat} (h:DI s n) (hn:n≤1000) {key val:List V} (hk:key∈K5) (hv:BS val):DI (s.put key val).2 n:=by
 unfold SD.put
 cases hf:Zt (fun i=>neq (gl (rd s.rows i) 0) key) 0 s.rows.length with
 | some j=>
  have hj:=Zc5 hf
  refine⟨h.idx0,h.idx1,fun r hr=>?_,h.tombs,h.lost,h.sessL,h.sess,h.lastsL,h.lasts,?_⟩
  ·rcases List.mem_or_eq_of_mem_set hr with hr | hr
   ·exact h.rows r hr
   ·subst hr
    obtain⟨a,b,c,d⟩:=h.rows _ (Zx hj)
    exact⟨a,hv,h.idxI hn,d⟩
  ·show((s.rows.set j (Za5 (gl (rd s.rows j) 0) val s.idx (gi (rd s.rows j) 3))).map Zaw++s.tombs.map Zaw).Nodup
   rw[ZiG (f:=Zaw) (x:=Za5 (gl (rd s.rows j) 0) val s.idx (gi (rd s.rows j) 3)) hj rfl];exact h.nd
 | none=>
  cases decide (20≤s.rows.length) with
  | true=>exact h
  | false=>
   have hno:key∉s.rows.map Zaw:=fun hm=>by
    obtain⟨r,hr,hrk⟩:=List.mem_map.1 hm
    obtain⟨i,hi,e⟩:=List.getElem_of_mem hr
    have e2:rd s.rows i=r:=by simp[rd,List.getD,hi,e]
    have:=firstI_none.1 hf i (Nat.zero_le _) (by omega)
    rw[e2,show gl r 0=key from hrk,ZeH] at this
    cases this
   have hrows:∀r∈Zan s.rows (ZbP s.rows key) (Za5 key val s.idx 0),gl r 0∈K5∧BS (gl r 1)∧I64 (gi r 2)∧I64 (gi r 3):=fun r hr=>by
    rcases ZeO hr with rfl | hr
    ·exact⟨hk,hv,h.idxI hn,Zk0⟩
    ·exact h.rows r hr
   have hpr:((Zan s.rows (ZbP s.rows key) (Za5 key val s.idx 0)).map Zaw).Perm (key :: s.rows.map Zaw):=(ZhS _ _ _).map Zaw
   cases hft:Zt (fun i=>neq (gl (rd s.tombs i) 0) key) 0 s.tombs.length with
   | none=>
    have hnt:key∉s.tombs.map Zaw:=fun hm=>by
     obtain⟨r,hr,hrk⟩:=List.mem_map.1 hm
     obtain⟨i,hi,e⟩:=List.getElem_of_mem hr
     have e2:rd s.tombs i=r:=by simp[rd,List.getD,hi,e]
     have:=firstI_none.1 hft i (Nat.zero_le _) (by omega)
     rw[e2,show gl r 0=key from hrk,ZeH] at this
     cases this
    refine⟨h.idx0,h.idx1,hrows,h.tombs,h.lost,h.sessL,h.sess,h.lastsL,h.lasts,?_⟩
    refine(hpr.append_right _).symm.nodup ?_
    rw[List.cons_append]
    exact List.nodup_cons.2 ⟨fun hm=>(List.mem_append.1 hm).elim hno hnt,h.nd⟩
   | some j=>
    have hj:=Zc5 hft
    have hq:neq (gl (rd s.tombs j) 0) key=true:=(Z8 hft).2.2.1
    have hkk:gl (rd s.tombs j) 0=key:=K5_neq (h.tombs _ (Zx hj)).1 hk hq
    refine⟨h.idx0,h.idx1,hrows,fun r hr=>h.tombs r (ZbE hr),h.lost,h.sessL,h.sess,h.lastsL,h.lasts,?_⟩
    have ht:(s.tombs.map Zaw).Perm (key :: (Zas s.tombs j).map Zaw):=by
     have:=(Zfg hj).map Zaw
     rw[List.map_cons,show Zaw (rd s.tombs j)=key from hkk] at this
     exact this
    have hp:(s.rows.map Zaw++s.tombs.map Zaw).Perm ((Zan s.rows (ZbP s.rows key) (Za5 key val s.idx 0)).map Zaw++(Zas s.tombs j).map Zaw):=
     ((ht.append_left _).trans List.perm_middle).trans (hpr.append_right _).symm
    exact hp.nodup h.nd
end Go.Eng.R
open Go Go.Eng
namespace Go.Eng.R
set_option maxRecDepth 100000
theorem DI.setRow {s:SD} {n:Nat} (h:DI s n) {j:Nat} (hj:j<s.rows.length) {v:List V} {t o:Int} (hv:BS v) (ht:I64 t) (ho:I64 o):DI { s with rows:=s.rows.set j (Za5 (gl (rd s.rows j) 0) v t o) } n:=by
 refine⟨h.idx0,h.idx1,fun r hr=>?_,h.tombs,h.lost,h.sessL,h.sess,h.lastsL,h.lasts,?_⟩
 ·rcases List.mem_or_eq_of_mem_set hr with hr | hr
  ·exact h.rows r hr
  ·subst hr;exact⟨(h.rows _ (Zx hj)).1,hv,ht,ho⟩
 ·show((s.rows.set j (Za5 (gl (rd s.rows j) 0) v t o)).map Zaw++s.tombs.map Zaw).Nodup
  rw[ZiG (f:=Zaw) (x:=Za5 (gl (rd s.rows j) 0) v t o) hj rfl];exact h.nd
theorem DI.shutL {n:Nat} (hn:n≤1000) (id:Int) (del:Bool):∀(m k:Nat) (s:SD),DI s n→DI (SD.shutL id del m k s) n
 | 0,_,_,h=>h
 | m+1,k,s,h=>by
  rw[SD.shutL]
  by_cases hk:k<s.rows.length
  case neg=>rw[dF hk];exact h
  rw[dT hk]
  cases decide (gi (rd s.rows k) 3=id) with
  | false=>exact DI.shutL hn id del m (k+1) s h
  | true=>
   cases del with
   | true=>exact DI.shutL hn id true m k _ (h.bury hn hk)
   | false=>exact DI.shutL hn id false m (k+1) _ (h.setRow hk (h.rows _ (Zx hk)).2.1 (h.idxI hn) Zk0)
theorem DI.shut {s:SD} {n:Nat} (h:DI s n) (hn:n≤1000) {i:Nat} (hi:i<s.sess.length):DI (s.shut i) n:=by
 have hl:=h.sessL
 exact DI.shutL hn _ _ _ _ _ ⟨h.idx0,h.idx1,h.rows,h.tombs,h.lost,by show(Zas s.sess i).length≤8;rw[Zde hi];omega,fun x hx=>h.sess x (ZbE hx),h.lastsL,h.lasts,h.nd⟩
theorem DI.hold {s:SD} {n:Nat} (h:DI s n) {key:List V} {o:Int} (ho:I64 o):DI (s.hold key o) n:=by
 unfold SD.hold
 cases hf:Zt (fun i=>neq (gl (rd s.rows i) 0) key) 0 s.rows.length with
 | none=>exact h
 | some j=>
  have hj:=Zc5 hf
  exact h.setRow hj (h.rows _ (Zx hj)).2.1 (h.rows _ (Zx hj)).2.2.1 ho
theorem Zi8 {s:SD} {key:List V} {j:Nat} (h:s.look key=some j):j<s.rows.length:=by
 unfold SD.look at h
 cases hk:decide (0<key.length) with
 | false=>rw[hk] at h;cases h
 | true=>rw[hk] at h;exact Zc5 h
theorem DI.do' {s:SD} {n:Nat} (h:DI s n) (hn:n≤1000) {k:Int} {key val:List V} {o:Int} (hk:key∈K5∨(key=[]∧opN k)) (hv:BS val) (ho:I64 o):DI (s.do' k key val o).2 n∧0≤(s.do' k key val o).1∧(s.do' k key val o).1≤4:=by
 have hp:opN k∨DI (s.put key val).2 n:=by
  rcases hk with hk | ⟨-,hk⟩
  ·exact .inr (h.put hn hk hv)
  ·exact .inl hk
 have hps:(k=1∨k=2)→DI (s.puts key val).2 n∧0≤(s.puts key val).1∧(s.puts key val).1≤4:=fun hkk=>by
  refine⟨?_,?_⟩
  ·rcases hp with hp | hp
   ·obtain⟨a,b,c⟩:=hp;omega
   ·exact hp
  ·show 0≤Zeb (s.put key val).1∧Zeb (s.put key val).1≤4
   unfold Zeb;cases(s.put key val).1 <;> decide
 unfold SD.do'
 by_cases h1:k=1
 ·rw[dT h1];exact hps (.inl h1)
 rw[dF h1]
 by_cases h2:k=2
 ·rw[dT h2]
  simp only[cond_false,cond_true]
  cases decide ((match s.look key with | some j=>gi (rd s.rows j) 2 | none=>0)=o) with
  | true=>exact hps (.inr h2)
  | false=>exact⟨h,(by decide:(0:Int)≤3),(by decide:(3:Int)≤4)⟩
 rw[dF h2]
 by_cases h3:k=3
 ·rw[dT h3]
  simp only[cond_false,cond_true]
  cases hl:s.look key with
  | none=>exact⟨h,(by decide:(0:Int)≤1),(by decide:(1:Int)≤4)⟩
  | some j=>exact⟨h.bury hn (Zi8 hl),(by decide:(0:Int)≤0),(by decide:(0:Int)≤4)⟩
 rw[dF h3]
 by_cases h4:k=4
 ·rw[dT h4]
  simp only[cond_false,cond_true]
  by_cases h8:8≤s.sess.length
  ·rw[dT h8];exact⟨h,(by decide:(0:Int)≤4),(by decide:(4:Int)≤4)⟩
  ·rw[dF h8]
   refine⟨⟨h.idx0,h.idx1,h.rows,h.tombs,h.lost,?_,fun x hx=>?_,h.lastsL,h.lasts,h.nd⟩,(by decide:(0:Int)≤0),(by decide:(0:Int)≤4)⟩
   ·show(s.sess++[_]).length≤8
    rw[List.length_append,List.length_singleton];omega
   ·rcases List.mem_append.1 hx with hx | hx
    ·exact h.sess x hx
    ·rw[List.mem_singleton.1 hx];exact h.idxI hn
 rw[dF h4]
 by_cases h5:k=5
 ·rw[dT h5]
  simp only[cond_false,cond_true]
  cases hl:s.sessAt o with
  | none=>exact⟨h,(by decide:(0:Int)≤1),(by decide:(1:Int)≤4)⟩
  | some i=>exact⟨h.shut hn (by have:=(Z8 hl).2.1;omega),(by decide:(0:Int)≤0),(by decide:(0:Int)≤4)⟩
 rw[dF h5]
 by_cases h6:k=6
 ·rw[dT h6]
  simp only[cond_false,cond_true]
  have hpp:DI (s.put key val).2 n:=by
   rcases hp with hp | hp
   ·obtain⟨a,b,c⟩:=hp;omega
   ·exact hp
  cases s.sessAt o with
  | none=>exact⟨h,(by decide:(0:Int)≤1),(by decide:(1:Int)≤4)⟩
  | some i=>
   simp only[]
   have fin:DI (bif (s.put key val).1 then((0:Int),(s.put key val).2.hold key o) else(4,(s.put key val).2)).2 n∧0≤(bif (s.put key val).1 then((0:Int),(s.put key val).2.hold key o) else(4,(s.put key val).2)).1∧(bif (s.put key val).1 then((0:Int),(s.put key val).2.hold key o) else(4,(s.put key val).2)).1≤4:=by
    cases(s.put key val).1 with
    | true=>exact⟨hpp.hold ho,(by decide:(0:Int)≤0),(by decide:(0:Int)≤4)⟩
    | false=>exact⟨hpp,(by decide:(0:Int)≤4),(by decide:(4:Int)≤4)⟩
   cases s.look key with
   | none=>exact fin
   | some j=>
    simp only[]
    cases !decide (gi (rd s.rows j) 3=0) && !decide (gi (rd s.rows j) 3=o) with
    | true=>exact⟨h,(by decide:(0:Int)≤2),(by decide:(2:Int)≤4)⟩
    | false=>exact fin
 rw[dF h6]
 by_cases h7:k=7
 ·rw[dT h7]
  simp only[cond_false,cond_true]
  cases hl:s.look key with
  | none=>exact⟨h,(by decide:(0:Int)≤1),(by decide:(1:Int)≤4)⟩
  | some j=>
   have hj:=Zi8 hl
   simp only[]
   cases decide (gi (rd s.rows j) 3=o) with
   | true=>exact⟨h.setRow hj (h.rows _ (Zx hj)).2.1 (h.idxI hn) Zk0,(by decide:(0:Int)≤0),(by decide:(0:Int)≤4)⟩
   | false=>exact⟨h,(by decide:(0:Int)≤1),(by decide:(1:Int)≤4)⟩
 rw[dF h7]
 exact⟨h,(by decide:(0:Int)≤0),(by decide:(0:Int)≤4)⟩
def D_Cmd (c:V):Prop:=gi c 0<0∨((gl c 3∈K5∨(gl c 3=[]∧opN (gi c 2)))∧BS (gl c 4)∧I64 (gi c 5)∧I64 (gi c 0)∧I64 (gi c 1))
theorem DI.up {s:SD} {n:Nat} (h:DI s n):DI s.up (n+1):=by
 refine⟨?_,?_,h.rows,h.tombs,h.lost,h.sessL,h.sess,Nat.le_succ_of_le h.lastsL,h.lasts,h.nd⟩
 ·show 0≤s.idx+1;have:=h.idx0;omega
 ·show s.idx+1≤((n+1:Nat):Int);have:=h.idx1;omega
theorem DI.apply {s:SD} {n:Nat} (h:DI s n) (hn:n≤900) {c:V} (hc:D_Cmd c):DI (s.apply c).2 (n+1):=by
 have hu:=h.up
 have hiu:=hu.idxI (by omega)
 unfold SD.apply
 by_cases h0:gi c 0<0
 ·rw[dT h0];exact hu
 rw[dF h0]
 rcases hc with hc | ⟨hk,hv,ho,hc0,hc1⟩
 ·exact absurd hc h0
 obtain⟨d1,d2,d3⟩:=hu.do' (by omega) hk hv ho
 have hdl:=ZjO s.up (gi c 2) (gl c 3) (gl c 4) (gi c 5)
 have hco:I64 (s.up.do' (gi c 2) (gl c 3) (gl c 4) (gi c 5)).1:=⟨by omega,by omega⟩
 have hcl:=ZkZ s.lasts (gi c 0)
 generalize Za9 s.lasts (gi c 0)=k at *
 simp only[cond_false]
 have fin:∀l:List V,l.length≤n+1→(∀x∈l,I64 (gi x 0)∧I64 (gi x 1)∧I64 (gi x 2)∧I64 (gi x 3))→DI { (s.up.do' (gi c 2) (gl c 3) (gl c 4) (gi c 5)).2 with lasts:=l } (n+1):=fun l h1 h2=>
  ⟨d1.idx0,d1.idx1,d1.rows,d1.tombs,d1.lost,d1.sessL,d1.sess,h1,h2,d1.nd⟩
 have hL:=h.lastsL
 have hnew:DI { (s.up.do' (gi c 2) (gl c 3) (gl c 4) (gi c 5)).2 with lasts:=Zan s.lasts k (Zi4 (gi c 0) (gi c 1) (s.up.do' (gi c 2) (gl c 3) (gl c 4) (gi c 5)).1 (s.idx+1)) } (n+1):=by
  refine fin _ (by rw[Zc4 hcl];omega) fun x hx=>?_
  rcases ZeO hx with rfl | hx
  ·exact⟨hc0,hc1,hco,hiu⟩
  ·exact h.lasts x hx
 by_cases hk1:k<s.lasts.length
 case neg=>rw[dF hk1];exact hnew
 rw[dT hk1]
 by_cases hk2:gi (rd s.lasts k) 0=gi c 0
 case neg=>rw[dF hk2];exact hnew
 rw[dT hk2]
 simp only[Bool.and_self,cond_true]
 by_cases hk3:gi (rd s.lasts k) 1=gi c 1
 ·rw[dT hk3];exact hu
 rw[dF hk3]
 simp only[cond_false]
 by_cases hk4:gi c 1<gi (rd s.lasts k) 1
 ·rw[dT hk4];exact hu
 rw[dF hk4]
 refine fin _ (by rw[List.length_set];omega) fun x hx=>?_
 rcases List.mem_or_eq_of_mem_set hx with hx | hx
 ·exact h.lasts x hx
 ·subst hx;exact⟨(h.lasts _ (Zx hk1)).1,hc1,hco,hiu⟩
theorem app_K {s:SD} {n:Nat} (h:DI s n) (hn:n≤900) {c:V} (hc:D_Cmd c) (hk:(gl c 3).length≤1000) (hv:(gl c 4).length≤1000):Ok (fun r=>∃s',DI s' (n+1)∧r.2=s'.v) (ZK s.v c):=by
 have hf:=h.few;have h1:=h.sessL;have h2:=h.lastsL;have i0:=h.idx0;have i1:=h.idx1
 exact⟨_,Zme (by omega) (by omega) (by omega) (by omega) (by omega) hk hv,_,h.apply hn hc,rfl⟩
end Go.Eng.R
open Go Go.Eng
namespace Go.Eng.R
set_option maxRecDepth 100000
def nb (b1:V):V:=V.agg [(V.int .i64 (gi b1 0)),(V.sl 3 Zg 0 none),(V.sl 4 Zf 0 none),(V.int .i64 (gi b1 3)),(V.sl 5 Za 0 none),(V.sl 6 Ze 0 none)]
def StR (r:V×V×V×List V×List V×List V×List V×List V×List V×List V×List V):Prop:=
 ZP r.1∧∃(s':SD) (m:Nat),m≤20∧DI s' m∧r.2.2.1=s'.b 7 8 9 10∧r.2.2.2.2.2.2.2.1=s'.rows∧r.2.2.2.2.2.2.2.2.1=s'.tombs∧r.2.2.2.2.2.2.2.2.2.1=s'.sess∧r.2.2.2.2.2.2.2.2.2.2=s'.lasts
theorem ZpY {k:List V} {o:Int} (h:k∈K5∨(k=[]∧opN o)):k.length≤1000:=by
 rcases h with h | ⟨rfl,-⟩
 ·have:=(Zi7 h).2;omega
 ·exact Nat.zero_le _
theorem Zk1 {n4:Int} (hn:n4≤20):∀(k i:Nat) (s:SD) (c b1:V) (r3 r4 r5 r6:List V),ZP c→DI s i→(i:Int)≤n4→(n4-(i:Int)).toNat<k→
  Ok StR (ZG k n4 (i:Int) (Zb c) b1 (s.b 7 8 9 10) r3 r4 r5 r6 s.rows s.tombs s.sess s.lasts)
 | 0,i,s,c,b1,r3,r4,r5,r6,hc,h,hi,hk=>by omega
 | k+1,i,s,c,b1,r3,r4,r5,r6,hc,h,hi,hk=>by
  rw[ZG]
  by_cases hin:(i:Int)<n4
  case neg=>rw[dF hin];exact⟨_,rfl,hc,s,i,by omega,h,rfl,rfl,rfl,rfl,rfl⟩
  rw[dT hin]
  simp only[cond_true]
  have ew:IntKind.i64.wrap ((i:Int)+1)=((i+1:Nat):Int):=by rw[Zax (by omega) (by omega)];omega
  have fin:∀(cm cur:V),ZP cur→D_Cmd cm→(gl cm 3).length≤1000→(gl cm 4).length≤1000→Ok StR (Option.bind (ZK s.v cm) fun r=>
    ZG k n4 (IntKind.i64.wrap ((i:Int)+1)) (Zb cur) (nb b1) (V.agg [(V.int .i64 (gi r.2 0)),(V.sl 7 Zg 0 none),(V.sl 8 Zf 0 none),(V.int .i64 (gi r.2 3)),(V.sl 9 Za 0 none),(V.sl 10 Ze 0 none)]) r3 r4 r5 r6 (gl r.2 1) (gl r.2 2) (gl r.2 4) (gl r.2 5)):=fun cm cur hcur hcm h3 h4=>by
   refine Ok.bind (app_K h (by omega) hcm h3 h4) ?_
   rintro⟨rp,st⟩ ⟨s',hs',e⟩
   have e:st=s'.v:=e
   subst e
   rw[ew]
   exact Zk1 hn k (i+1) s' cur (nb b1) r3 r4 r5 r6 hcur hs' (by omega) (by omega)
  have none':∀cur:V,ZP cur→Ok StR (Option.bind (ZK s.v (V.agg [(V.int .i64 (-1)),(V.int .i64 0),(V.int .i64 0),(V.inl Zc []),(V.inl Zc []),(V.int .i64 0)])) fun r=>
    ZG k n4 (IntKind.i64.wrap ((i:Int)+1)) (Zb cur) (nb b1) (V.agg [(V.int .i64 (gi r.2 0)),(V.sl 7 Zg 0 none),(V.sl 8 Zf 0 none),(V.int .i64 (gi r.2 3)),(V.sl 9 Za 0 none),(V.sl 10 Ze 0 none)]) r3 r4 r5 r6 (gl r.2 1) (gl r.2 2) (gl r.2 4) (gl r.2 5)):=fun cur hcur=>
   fin _ cur hcur (.inl (show(-1:Int)<0 by omega)) (Nat.zero_le _) (Nat.zero_le _)
  have some':∀(cur o:V) (x m:Int),ZP cur→D_Op o→I64 x→I64 m→Ok StR (Option.bind (ZK s.v (V.agg [(V.int .i64 x),(V.int .i64 (IntKind.i64.wrap (1+(i:Int)))),(V.int .i64 (gi o 0)),(V.inl Zc (gl o 1)),(V.inl Zc (gl o 2)),(V.int .i64 m)])) fun r=>
    ZG k n4 (IntKind.i64.wrap ((i:Int)+1)) (Zb cur) (nb b1) (V.agg [(V.int .i64 (gi r.2 0)),(V.sl 7 Zg 0 none),(V.sl 8 Zf 0 none),(V.int .i64 (gi r.2 3)),(V.sl 9 Za 0 none),(V.sl 10 Ze 0 none)]) r3 r4 r5 r6 (gl r.2 1) (gl r.2 2) (gl r.2 4) (gl r.2 5)):=fun cur o x m hcur ho hx hm=>
   fin _ cur hcur (.inr ⟨ho.1,ho.2.1,hm,hx,wrI _⟩) (ZpY ho.1) (by have:=ho.2.1.2;show(gl o 2).length≤1000;omega)
  refine Ok.bind2 (Zb1 hc 3) ?_
  rintro x c1 ⟨h1,x0,x1,-⟩
  have hx:I64 x:=⟨by omega,by omega⟩
  refine Ok.bind2 (op_K h1 _) ?_
  rintro o c2 ⟨h2,ho⟩
  by_cases hi0:(i:Int)=0
  ·rw[dT hi0]
   simp only[cond_true]
   refine Ok.bind2 (Zb1 h2 2) ?_
   rintro y c3 ⟨h3,y0,y1,-⟩
   refine Ok.bind (ZfF h3 9) ?_
   rintro⟨b,c4⟩ h4
   cases b with
   | true=>exact none' c4 h4
   | false=>exact some' c4 (V.agg [(V.int .i64 4),(V.inl Zc []),(V.inl Zc []),(V.int .i64 y)]) x y h4 ⟨.inr ⟨rfl,by show(4:Int)≠1;omega,by show(4:Int)≠2;omega,by show(4:Int)≠6;omega⟩,BS.nil,⟨by show(-9223372036854775808:Int)≤4;omega,by show(4:Int)≤9223372036854775807;omega⟩,⟨by show(-9223372036854775808:Int)≤y;omega,by show y≤9223372036854775807;omega⟩⟩ hx ⟨by omega,by omega⟩
  rw[dF hi0]
  simp only[cond_false]
  have last:∀cur:V,ZP cur→Ok StR (Option.bind (ZY (Zb cur) 9) fun q=>bif q.1 then(Option.bind (ZK s.v (V.agg [(V.int .i64 (-1)),(V.int .i64 0),(V.int .i64 0),(V.inl Zc []),(V.inl Zc []),(V.int .i64 0)])) fun r=>
     ZG k n4 (IntKind.i64.wrap ((i:Int)+1)) (Zb q.2) (nb b1) (V.agg [(V.int .i64 (gi r.2 0)),(V.sl 7 Zg 0 none),(V.sl 8 Zf 0 none),(V.int .i64 (gi r.2 3)),(V.sl 9 Za 0 none),(V.sl 10 Ze 0 none)]) r3 r4 r5 r6 (gl r.2 1) (gl r.2 2) (gl r.2 4) (gl r.2 5))
    else(Option.bind (ZK s.v (V.agg [(V.int .i64 x),(V.int .i64 (IntKind.i64.wrap (1+(i:Int)))),(V.int .i64 (gi o 0)),(V.inl Zc (gl o 1)),(V.inl Zc (gl o 2)),(V.int .i64 (gi o 3))])) fun r=>
     ZG k n4 (IntKind.i64.wrap ((i:Int)+1)) (Zb q.2) (nb b1) (V.agg [(V.int .i64 (gi r.2 0)),(V.sl 7 Zg 0 none),(V.sl 8 Zf 0 none),(V.int .i64 (gi r.2 3)),(V.sl 9 Za 0 none),(V.sl 10 Ze 0 none)]) r3 r4 r5 r6 (gl r.2 1) (gl r.2 2) (gl r.2 4) (gl r.2 5))):=fun cur hcur=>by
   refine Ok.bind (ZfF hcur 9) ?_
   rintro⟨b,c4⟩ h4
   cases b with
   | true=>exact none' c4 h4
   | false=>exact some' c4 o x (gi o 3) h4 ho hx ho.2.2.2
  by_cases h5:(5:Int)≤gi o 0
  case neg=>rw[dF h5];exact last c2 h2
  rw[dT h5]
  by_cases hs:0<s.sess.length
  case neg=>rw[dF (show ¬(0:Int)<((s.sess.length:Nat):Int) by omega)];exact last c2 h2
  rw[dT (show(0:Int)<((s.sess.length:Nat):Int) by omega)]
  simp only[cond_true]
  refine Ok.bind (ZfF h2 3) ?_
  rintro⟨b,c3⟩ h3
  cases b with
  | true=>exact last c3 h3
  | false=>
   simp only[Bool.not_false,cond_true]
   refine Ok.bind2 (Zb1 h3 _) ?_
   rintro y c4 ⟨h4,y0,y1,y2⟩
   have hy:y.toNat<s.sess.length:=by omega
   rw[Zhj y0 (by omega)]
   simp only[cond_true]
   refine Ok.bind (ZfF h4 9) ?_
   rintro⟨b,c5⟩ h5'
   cases b with
   | true=>exact none' c5 h5'
   | false=>exact some' c5 o x (gi (rd s.sess (0+y.toNat)) 0) h5' ho hx (by rw[Nat.zero_add];exact h.sess _ (Zx hy))
theorem state_O {c:V} (h:ZP c):Ok2 (fun st c=>ZP c∧∃(s:SD) (m:Nat),m≤20∧DI s m∧st=s.v) (Ze3 (Zb c)):=by
 unfold Ze3
 refine .of ?_
 refine Ok.bind2 (Zb1 h 20) ?_
 rintro n c1 ⟨h1,n0,n1,n2⟩
 have hz:DI ⟨0,[],[],0,[],[]⟩ 0:=⟨Int.le_refl _,Int.le_refl _,fun _ h=>(by cases h),fun _ h=>(by cases h),Zk0,Nat.zero_le _,fun _ h=>(by cases h),Nat.le_refl _,fun _ h=>(by cases h),List.nodup_nil⟩
 refine Ok.bind (Zk1 (n4:=n) (by omega) ((n-0).toNat+1) 0 ⟨0,[],[],0,[],[]⟩ c1 _ [] [] [] [] h1 hz n0 (by omega)) ?_
 rintro r ⟨hc,s,m,hm,hs,e1,e2,e3,e4,e5⟩
 refine⟨_,rfl,hc,s,m,hm,hs,?_⟩
 rw[e1,e2,e3,e4,e5];rfl
structure BI (s:SD):Prop where
 idx:I64 s.idx
 rowsL:s.rows.length≤30
 rows:∀r∈s.rows,BS (gl r 0)∧BS (gl r 1)∧I64 (gi r 2)∧I64 (gi r 3)
 tombsL:s.tombs.length≤30
 tombs:∀r∈s.tombs,BS (gl r 0)∧I64 (gi r 1)
 lost:I64 s.lost
 sessL:s.sess.length≤30
 sess:∀x∈s.sess,I64 (gi x 0)
 lastsL:s.lasts.length≤30
 lasts:∀x∈s.lasts,I64 (gi x 0)∧I64 (gi x 1)∧I64 (gi x 2)∧I64 (gi x 3)
theorem DI.bi {s:SD} {m:Nat} (hm:m≤20) (h:DI s m):BI s:=by
 have hf:=h.few;have hs:=h.sessL;have hl:=h.lastsL
 exact⟨h.idxI (by omega),by omega,fun r hr=>⟨Zi7 (h.rows r hr).1,(h.rows r hr).2⟩,by omega,fun r hr=>⟨Zi7 (h.tombs r hr).1,(h.tombs r hr).2⟩,h.lost,by omega,h.sess,by omega,h.lasts⟩
end Go.Eng.R
open Go Go.Eng
namespace Go.Eng.R
set_option maxRecDepth 100000
def StB (r:V×V):Prop:=ZP r.2∧∃s:SD,BI s∧r.1=s.v
theorem BI.setRow {s:SD} (h:BI s) (j:Nat) {x:V} (hx:BS (gl x 0)∧BS (gl x 1)∧I64 (gi x 2)∧I64 (gi x 3)):BI { s with rows:=s.rows.set j x }:=
 ⟨h.idx,by show(s.rows.set j x).length≤30;rw[List.length_set];exact h.rowsL,fun r hr=>(List.mem_or_eq_of_mem_set hr).elim (h.rows r) fun e=>e▸hx,h.tombsL,h.tombs,h.lost,h.sessL,h.sess,h.lastsL,h.lasts⟩
theorem bent_S {c:V} (h:ZP c):Ok StB (Zfs (Zb c)):=by
 unfold Zfs
 refine Ok.bind2 (state_O h) ?_
 rintro st c1 ⟨h1,s,m,hm,hs,rfl⟩
 have hb:=hs.bi hm
 have hf:=hs.few;have hsl:=hs.sessL;have hll:=hs.lastsL
 have same:∀cur:V,ZP cur→Ok StB (some (Zd s.v,Zb cur)):=fun cur hc=>⟨_,rfl,hc,s,hb,rfl⟩
 refine Ok.bind (ZfF h1 6) ?_
 rintro⟨b,c2⟩ h2
 cases b with
 | false=>exact same c2 h2
 | true=>
 simp only[Bool.not_true,cond_false]
 refine Ok.bind2 (Zb1 h2 8) ?_
 rintro k c3 ⟨h3,-,-,-⟩
 by_cases k0:k=0
 ·rw[dT k0]
  simp only[cond_true]
  refine Ok.bind2 (ZfH h3 (by decide) ⟨⟨by decide,by decide⟩,⟨by decide,by decide⟩,⟨by decide,by decide⟩,⟨by decide,by decide⟩,trivial⟩) ?_
  rintro x c4 ⟨h4,hx⟩
  exact⟨_,rfl,h4,{ s with idx:=x },⟨hx,hb.rowsL,hb.rows,hb.tombsL,hb.tombs,hb.lost,hb.sessL,hb.sess,hb.lastsL,hb.lasts⟩,rfl⟩
 rw[dF k0]
 by_cases k1:k=1
 ·rw[dT k1]
  simp only[cond_false,cond_true]
  by_cases hr:0<s.rows.length
  case neg=>rw[show decide ((0:Int)<((gl s.v 1).length:Int))=false from dF (by show ¬(0:Int)<((s.rows.length:Nat):Int);omega)];exact same c3 h3
  rw[show decide ((0:Int)<((gl s.v 1).length:Int))=true from dT (by show(0:Int)<((s.rows.length:Nat):Int);omega)]
  simp only[cond_true]
  refine Ok.bind2 (Zb1 h3 9) ?_
  rintro y c4 ⟨h4,y0,y1,-⟩
  rw[show Zn 0 (gl s.v 1).length=true from Zhj (by omega) (by show(0:Int)<((s.rows.length:Nat):Int);omega)]
  obtain⟨q1,q2,q3,q4⟩:=hb.rows _ (Zx hr)
  exact⟨_,rfl,h4,_,hb.setRow 0 (x:=Za5 (gl (rd s.rows 0) 0) (gl (rd s.rows 0) 1) (gi (rd s.rows 0) 2) y) ⟨q1,q2,q3,⟨by show(-9223372036854775808:Int)≤y;omega,by show y≤9223372036854775807;omega⟩⟩,rfl⟩
 rw[dF k1]
 by_cases k2:k=2
 ·rw[dT k2]
  simp only[cond_false,cond_true]
  by_cases hr:0<s.rows.length
  case neg=>rw[show decide ((0:Int)<((gl s.v 1).length:Int))=false from dF (by show ¬(0:Int)<((s.rows.length:Nat):Int);omega)];exact same c3 h3
  rw[show decide ((0:Int)<((gl s.v 1).length:Int))=true from dT (by show(0:Int)<((s.rows.length:Nat):Int);omega)]
  simp only[cond_true]
  refine Ok.bind2 (ZfH h3 (by decide) ⟨⟨by decide,by decide⟩,⟨by decide,by decide⟩,⟨by decide,by decide⟩,trivial⟩) ?_
  rintro y c4 ⟨h4,hy⟩
  rw[show Zn 0 (gl s.v 1).length=true from Zhj (by omega) (by show(0:Int)<((s.rows.length:Nat):Int);omega)]
  obtain⟨q1,q2,q3,q4⟩:=hb.rows _ (Zx hr)
  exact⟨_,rfl,h4,_,hb.setRow 0 (x:=Za5 (gl (rd s.rows 0) 0) (gl (rd s.rows 0) 1) y (gi (rd s.rows 0) 3)) ⟨q1,q2,hy,q4⟩,rfl⟩
 rw[dF k2]
 by_cases k3:k=3
 ·rw[dT k3]
  simp only[cond_false,cond_true]
  refine Ok.bind2 (ZlQ h3) ?_
  rintro y c4 ⟨h4,hy⟩
  rw[show(Zv ((gl s.v 2).length+1) 32&&true)=true from Z4 (by show(s.tombs.length+1)*32≤_;omega) (by show s.tombs.length+1≤_;omega)]
  refine⟨_,rfl,h4,{ s with tombs:=s.tombs++[Zc3 y s.idx] },⟨hb.idx,hb.rowsL,hb.rows,by show(s.tombs++[_]).length≤30;rw[List.length_append,List.length_singleton];omega,fun r hr=>?_,hb.lost,hb.sessL,hb.sess,hb.lastsL,hb.lasts⟩,rfl⟩
  rcases List.mem_append.1 hr with hr | hr
  ·exact hb.tombs r hr
  ·rw[List.mem_singleton.1 hr];exact⟨Zi7 hy,hb.idx⟩
 rw[dF k3]
 by_cases k4:k=4
 ·rw[dT k4]
  simp only[cond_false,cond_true]
  refine Ok.bind2 (ZfH h3 (by decide) ⟨⟨by decide,by decide⟩,⟨by decide,by decide⟩,⟨by decide,by decide⟩,trivial⟩) ?_
  rintro x c4 ⟨h4,hx⟩
  exact⟨_,rfl,h4,{ s with lost:=x },⟨hb.idx,hb.rowsL,hb.rows,hb.tombsL,hb.tombs,hx,hb.sessL,hb.sess,hb.lastsL,hb.lasts⟩,rfl⟩
 rw[dF k4]
 by_cases k5:k=5
 ·rw[dT k5]
  simp only[cond_false,cond_true]
  refine Ok.bind2 (Zb1 h3 9) ?_
  rintro y c4 ⟨h4,y0,y1,-⟩
  rw[show(Zv ((gl s.v 4).length+1) 16&&true)=true from Z4 (by show(s.sess.length+1)*16≤_;omega) (by show s.sess.length+1≤_;omega)]
  refine⟨_,rfl,h4,{ s with sess:=s.sess++[ZhR y false] },⟨hb.idx,hb.rowsL,hb.rows,hb.tombsL,hb.tombs,hb.lost,by show(s.sess++[_]).length≤30;rw[List.length_append,List.length_singleton];omega,fun r hr=>?_,hb.lastsL,hb.lasts⟩,rfl⟩
  rcases List.mem_append.1 hr with hr | hr
  ·exact hb.sess r hr
  ·rw[List.mem_singleton.1 hr];exact⟨by show(-9223372036854775808:Int)≤y;omega,by show y≤9223372036854775807;omega⟩
 rw[dF k5]
 by_cases k6:k=6
 ·rw[dT k6]
  simp only[cond_false,cond_true]
  refine Ok.bind2 (Zb1 h3 6) ?_
  rintro y c4 ⟨h4,y0,y1,-⟩
  rw[show(Zv ((gl s.v 5).length+1) 32&&true)=true from Z4 (by show(s.lasts.length+1)*32≤_;omega) (by show s.lasts.length+1≤_;omega)]
  refine⟨_,rfl,h4,{ s with lasts:=s.lasts++[Zi4 (IntKind.i64.wrap (y-1)) 1 0 1] },⟨hb.idx,hb.rowsL,hb.rows,hb.tombsL,hb.tombs,hb.lost,hb.sessL,hb.sess,by show(s.lasts++[_]).length≤30;rw[List.length_append,List.length_singleton];omega,fun r hr=>?_⟩,rfl⟩
  rcases List.mem_append.1 hr with hr | hr
  ·exact hb.lasts r hr
  ·rw[List.mem_singleton.1 hr]
   have o1:I64 1:=⟨by decide,by decide⟩
   exact⟨wrI _,o1,Zk0,o1⟩
 rw[dF k6]
 simp only[cond_false]
 by_cases hr:0<s.rows.length
 case neg=>rw[show decide ((0:Int)<((gl s.v 1).length:Int))=false from dF (by show ¬(0:Int)<((s.rows.length:Nat):Int);omega)];exact same c3 h3
 rw[show decide ((0:Int)<((gl s.v 1).length:Int))=true from dT (by show(0:Int)<((s.rows.length:Nat):Int);omega)]
 simp only[cond_true]
 refine Ok.bind2 (Zb1 h3 3) ?_
 rintro y c4 ⟨h4,y0,y1,y2⟩
 rw[Zhj (n:=3) y0 (by omega),show Zn 0 (gl s.v 1).length=true from Zhj (by omega) (by show(0:Int)<((s.rows.length:Nat):Int);omega)]
 obtain⟨q1,q2,q3,q4⟩:=hb.rows _ (Zx hr)
 have hk:BS (gs (rd [(V.str []),(V.str [(V.int .u8 65)]),(V.str [(V.int .u8 122),(V.int .u8 122)])] (0+y.toNat)) 0):=bsAll_rd rfl (by simp;omega)
 exact⟨_,rfl,h4,_,hb.setRow 0 (x:=Za5 (gs (rd [(V.str []),(V.str [(V.int .u8 65)]),(V.str [(V.int .u8 122),(V.int .u8 122)])] (0+y.toNat)) 0) (gl (rd s.rows 0) 1) (gi (rd s.rows 0) 2) (gi (rd s.rows 0) 3)) ⟨hk,q2,q3,q4⟩,rfl⟩
end Go.Eng.R
open Go Go.Eng
namespace Go.Eng.R
set_option maxRecDepth 100000
def AscI (l:List V):Prop:=∀i,i+1<l.length→gi (rd l i) 0<gi (rd l (i+1)) 0
def lbI (l:List V) (id:Int):Nat:=(l.takeWhile (fun x=>decide (gi x 0<id))).length
def Zgw (l:List V) (id:Int):Bool:=decide (lbI l id<l.length)&&decide (gi (rd l (lbI l id)) 0=id)
theorem Zk2 (l:List V) (id:Int):lbI l id≤l.length:=(List.takeWhile_prefix _).sublist.length_le
theorem AscI.tail {x:V} {l:List V} (h:AscI (x :: l)):AscI l:=fun i hi=>h (i+1) (by simpa using hi)
theorem AscI.lt {l:List V} (h:AscI l):∀(j i:Nat),i<j→j<l.length→gi (rd l i) 0<gi (rd l j) 0
 | 0,i,hi,_=>by omega
 | j+1,i,hi,hj=>by
  have h1:=h j hj
  rcases Nat.lt_or_ge i j with c | c
  ·have:=AscI.lt h j i c (by omega);omega
  ·obtain rfl:i=j:=by omega
   exact h1
theorem Zfh:∀{l:List V},AscI l→∀(id:Int) (i:Nat),i<l.length→decide (gi (rd l i) 0<id)=decide (i<lbI l id)
 | [],_,_,i,hi=>by simp at hi
 | x :: l,h,id,i,hi=>by
  unfold lbI
  by_cases hx:gi x 0<id
  ·rw[List.takeWhile_cons,if_pos (by simpa using hx),List.length_cons]
   cases i with
   | zero=>rw[decide_eq_true (p:=gi (rd (x :: l) 0) 0<id) hx,decide_eq_true (by omega)]
   | succ i=>
    have:=Zfh h.tail id i (by simpa using hi)
    unfold lbI at this
    rw[show rd (x :: l) (i+1)=rd l i from rfl,this]
    congr 1
    exact propext ⟨fun c=>by omega,fun c=>by omega⟩
  ·rw[List.takeWhile_cons,if_neg (by simpa using hx)]
   have h0:¬gi (rd (x :: l) i) 0<id:=by
    cases i with
    | zero=>exact hx
    | succ i=>have:=h.lt (i+1) 0 (by omega) hi;intro c;exact hx (Int.lt_trans this c)
   rw[decide_eq_false h0,decide_eq_false (by simp)]
theorem last_neg {l:V} {t:Int} (h:0≤gi l 0∧gi l 0≤3) (ht:0≤t∧t≤3):decide (Zcl (Zfp l) t<0)=decide (gi l 0<t):=by
 show decide (IntKind.i64.wrap (gi l 0-t)<0)=_
 rw[Zax (by omega) (by omega)]
 by_cases h1:gi l 0<t
 ·rw[decide_eq_true h1,decide_eq_true (by omega)]
 ·rw[decide_eq_false h1,decide_eq_false (by omega)]
theorem ZpZ {l:V} {t:Int} (h:0≤gi l 0∧gi l 0≤3) (ht:0≤t∧t≤3):decide (Zcl (Zfp l) t=0)=decide (gi l 0=t):=by
 show decide (IntKind.i64.wrap (gi l 0-t)=0)=_
 rw[Zax (by omega) (by omega)]
 by_cases h1:gi l 0=t
 ·rw[decide_eq_true h1,decide_eq_true (by omega)]
 ·rw[decide_eq_false h1,decide_eq_false (by omega)]
theorem bsI_eq {S:List V} (hS:S.length≤4194304) (ha:AscI S) (hb:∀i,i<S.length→0≤gi (rd S i) 0∧gi (rd S i) 0≤3) {t:Int} (ht:0≤t∧t≤3):ZaZ S t=some (((lbI S t:Nat):Int),Zgw S t):=by
 unfold ZaZ
 have hle:=Zk2 S t
 rw[Za0,show(0:Int)=((0:Nat):Int) from rfl,Zi1 (F:=fun m i j=>ZT m S t ((S.length:Nat):Int) i j) (x:=S) (p:=fun r=>decide (gi r 0<t)) (n0:=lbI S t) (out:=fun i=>some (S,t,((S.length:Nat):Int),i)) (by omega) (Zfh ha t) ?_ ?_ (S.length+1) 0 S.length (by omega) hle (by omega) (by omega)]
 ·simp only[Option.bind_some]
  unfold Zgw
  by_cases hc:lbI S t<S.length
  ·rw[Zaj hc,cond_true,Zq hc,cond_true,Int.toNat_natCast,decide_eq_true hc,Bool.true_and]
   congr 2
   exact ZpZ (hb _ hc) ht
  ·rw[decide_eq_false (p:=((lbI S t:Nat):Int)<((S.length:Nat):Int)) (by omega),decide_eq_false hc]
   rfl
 ·intro m i j hij hj
  have hw:=wr_mid (i:=i) (j:=j) (by omega)
  simp only[ZT,hw]
  rw[Zaj hij,cond_true,Zq (show(i+j) / 2<S.length by omega),cond_true,Int.toNat_natCast,Zah (n:=S.length) (show(i+j) / 2<S.length by omega) (by omega)]
  rw[last_neg (hb _ (show(i+j) / 2<S.length by omega)) ht]
 ·intro m i;simp only[ZT,Zab,cond_false]
theorem sv_head {s:V} (h:ZbO s=true):0≤gi s 0∧gi s 0≤1000000∧0≤gi s 3∧gi s 3≤gi s 0∧(gl s 1).length≤20∧(gl s 2).length≤10∧(gl s 4).length≤8∧(gl s 5).length≤4:=by
 unfold ZbO at h
 rw[Bool.and_eq_true] at h
 exact of_decide_eq_true h.1
theorem ZoE {s:V} (h:ZbO s=true):(List.range (gl s 1).length).all (Zgu s)=true:=by
 unfold ZbO at h
 simp only[Bool.and_eq_true] at h
 exact h.2.1
theorem sv_row {s:V} (h:ZbO s=true) {i:Nat} (hi:i<(gl s 1).length):Zgu s i=true:=by
 have:=ZoE h
 rw[List.all_eq_true] at this
 exact this i (List.mem_range.2 hi)
theorem sv_tomb {s:V} (h:ZbO s=true) {i:Nat} (hi:i<(gl s 2).length):Zd0 s i=true:=by
 unfold ZbO at h
 simp only[Bool.and_eq_true] at h
 have:=h.2.2.1
 rw[List.all_eq_true] at this
 exact this i (List.mem_range.2 hi)
theorem ZoF {s:V} (h:ZbO s=true) {i:Nat} (hi:i<(gl s 4).length):Zfu s i=true:=by
 unfold ZbO at h
 simp only[Bool.and_eq_true] at h
 have:=h.2.2.2.1
 rw[List.all_eq_true] at this
 exact this i (List.mem_range.2 hi)
theorem ZoG {s:V} (h:ZbO s=true) {i:Nat} (hi:i<(gl s 5).length):Zf2 s i=true:=by
 unfold ZbO at h
 simp only[Bool.and_eq_true] at h
 have:=h.2.2.2.2
 rw[List.all_eq_true] at this
 exact this i (List.mem_range.2 hi)
theorem ZjP {k:List V} (h:Zcj k=true):k.length≤20:=by
 unfold Zcj at h
 simp only[Bool.and_eq_true,decide_eq_true_eq] at h
 exact h.2.1
theorem sessB_id {s:V} {i:Nat} (h:Zfu s i=true):1≤gi (rd (gl s 4) i) 0∧gi (rd (gl s 4) i) 0≤gi s 0:=by
 unfold Zfu at h
 simp only[Bool.and_eq_true,Bool.not_eq_true',decide_eq_false_iff_not] at h
 omega
theorem Zod {s:V} (h:ZbO s=true):AscI (gl s 4):=by
 intro i hi
 have:=ZoF h hi
 unfold Zfu at this
 simp only[Bool.and_eq_true] at this
 simpa using this.2.2
theorem Zoe {s:V} (h:ZbO s=true):AscI (gl s 5):=by
 intro i hi
 have:=ZoG h hi
 unfold Zf2 at this
 simp only[Bool.and_eq_true] at this
 simpa using this.2
theorem Zpe {s:V} (h:ZbO s=true) {i:Nat} (hi:i<(gl s 5).length):0≤gi (rd (gl s 5) i) 0∧gi (rd (gl s 5) i) 0≤3∧1≤gi (rd (gl s 5) i) 1∧gi (rd (gl s 5) i) 1≤1000000∧0≤gi (rd (gl s 5) i) 2∧gi (rd (gl s 5) i) 2≤5∧1≤gi (rd (gl s 5) i) 3∧gi (rd (gl s 5) i) 3≤gi s 0:=by
 have:=ZoG h hi
 unfold Zf2 at this
 rw[Bool.and_eq_true] at this
 exact of_decide_eq_true this.1
theorem Zck {x:List V} (h:x.length≤1000):Zy x=some x:=by
 unfold Zy
 rw[Z4 (by omega) (by omega)];rfl
def RowE (a b:V):Prop:=gl a 0=gl b 0∧gl a 1=gl b 1∧gi a 2=gi b 2∧gi a 3=gi b 3
def Zi9 (a b:V):Prop:=gl a 0=gl b 0∧gi a 1=gi b 1
def SameL (E:V→V→Prop) (l l':List V):Prop:=l.length=l'.length∧∀j,j<l'.length→E (rd l j) (rd l' j)
theorem SameL.set {E:V→V→Prop} {l l':List V} (h:SameL E l l') {i:Nat} {z:V} (hz:E z (rd l' i)):SameL E (l.set i z) l':=by
 refine⟨by rw[List.length_set];exact h.1,fun j hj=>?_⟩
 by_cases hij:j=i
 ·subst hij;rw[Zbr (by rw[h.1];exact hj)];exact hz
 ·rw[Zei hij];exact h.2 j hj
def nrow (r:V):V:=Za5 (gl r 0) (gl r 1) (gi r 2) (gi r 3)
def Zf4 (t:V):V:=Zc3 (gl t 0) (gi t 1)
theorem own_O {s:V} (hr:(gl s 1).length≤1000) (ht:(gl s 2).length≤1000) (h4:(gl s 4).length≤1000) (h5:(gl s 5).length≤1000) (hk:∀j,j<(gl s 1).length→(gl (rd (gl s 1) j) 0).length≤1000∧(gl (rd (gl s 1) j) 1).length≤1000) (hk2:∀j,j<(gl s 2).length→(gl (rd (gl s 2) j) 0).length≤1000):
  ∃R T,Za8 (Zd s)=some (V.agg [(V.int .i64 (gi s 0)),(V.inl Zg R),(V.inl Zf T),(V.int .i64 (gi s 3)),(V.inl Za (gl s 4)),(V.inl Ze (gl s 5))])∧SameL RowE R (gl s 1)∧SameL Zi9 T (gl s 2)∧(∀r∈R,nrow r=r)∧(∀t∈T,Zf4 t=t):=by
 unfold Za8
 simp only[show gl (Zd s) 1=gl s 1 from rfl,show gl (Zd s) 2=gl s 2 from rfl,show gl (Zd s) 4=gl s 4 from rfl,show gl (Zd s) 5=gl s 5 from rfl,show gi (Zd s) 0=gi s 0 from rfl,show gi (Zd s) 3=gi s 3 from rfl]
 have c1:ZcH (gl s 1)=some (gl s 1):=by unfold ZcH;rw[Z4 (by omega) (by omega)];rfl
 have c2:Zcm (gl s 2)=some (gl s 2):=by unfold Zcm;rw[Z4 (by omega) (by omega)];rfl
 have c3:ZbL (gl s 4)=some (gl s 4):=by unfold ZbL;rw[Z4 (by omega) (by omega)];rfl
 have c4:Zcn (gl s 5)=some (gl s 5):=by unfold Zcn;rw[Z4 (by omega) (by omega)];rfl
 rw[c1,c2,c3,c4]
 simp only[Option.bind_some,Za0]
 have L3:∃R,Zbb ((gl s 1).length+1) (((gl s 1).length:Nat):Int) 0 (V.agg [(V.int .i64 (gi s 0)),(V.sl 2 Zg 0 none),(V.sl 3 Zf 0 none),(V.int .i64 (gi s 3)),(V.sl 4 Za 0 none),(V.sl 5 Ze 0 none)]) (V.agg [(V.int .i64 0),(V.sl 6 Zg 0 none),(V.sl 7 Zf 0 none),(V.int .i64 0),(V.sl 8 Za 0 none),(V.sl 9 Ze 0 none)]) (gl s 1) (gl s 2) (gl s 4) (gl s 5) [] [] [] [] =
   some ((V.agg [(V.int .i64 (gi s 0)),(V.sl 2 Zg 0 none),(V.sl 3 Zf 0 none),(V.int .i64 (gi s 3)),(V.sl 4 Za 0 none),(V.sl 5 Ze 0 none)]),(V.agg [(V.int .i64 0),(V.sl 6 Zg 0 none),(V.sl 7 Zf 0 none),(V.int .i64 0),(V.sl 8 Za 0 none),(V.sl 9 Ze 0 none)]),R,gl s 2,gl s 4,gl s 5,[],[],[],[])∧SameL RowE R (gl s 1)∧(∀r∈R,nrow r=r):=by
  refine Zca (σ:=List V) (F:=fun m r i=>Zbb m (((gl s 1).length:Nat):Int) i (V.agg [(V.int .i64 (gi s 0)),(V.sl 2 Zg 0 none),(V.sl 3 Zf 0 none),(V.int .i64 (gi s 3)),(V.sl 4 Za 0 none),(V.sl 5 Ze 0 none)]) (V.agg [(V.int .i64 0),(V.sl 6 Zg 0 none),(V.sl 7 Zf 0 none),(V.int .i64 0),(V.sl 8 Za 0 none),(V.sl 9 Ze 0 none)]) r (gl s 2) (gl s 4) (gl s 5) [] [] [] []) (n:=(gl s 1).length) (fun i r=>SameL RowE r (gl s 1)∧∀j,j<i→nrow (rd r j)=rd r j) (fun o=>∃R,o=some ((V.agg [(V.int .i64 (gi s 0)),(V.sl 2 Zg 0 none),(V.sl 3 Zf 0 none),(V.int .i64 (gi s 3)),(V.sl 4 Za 0 none),(V.sl 5 Ze 0 none)]),(V.agg [(V.int .i64 0),(V.sl 6 Zg 0 none),(V.sl 7 Zf 0 none),(V.int .i64 0),(V.sl 8 Za 0 none),(V.sl 9 Ze 0 none)]),R,gl s 2,gl s 4,gl s 5,[],[],[],[])∧SameL RowE R (gl s 1)∧(∀r∈R,nrow r=r)) ?_ ?_ ⟨⟨rfl,fun j _=>⟨rfl,rfl,rfl,rfl⟩⟩,fun j hj=>absurd hj (Nat.not_lt_zero _)⟩
  ·intro m i r hi hI0
   have hI:=hI0.1
   obtain⟨q1,q2,q3,q4⟩:=hI.2 i hi
   obtain⟨k1,k2⟩:=hk i hi
   have hri:i<r.length:=by rw[hI.1];exact hi
   refine .inl ?_
   simp only[Zbb,Zaj hi,Zq hri,Int.toNat_natCast,Nat.zero_add,cond_true,List.length_set,Zah hi (show(gl s 1).length≤9223372036854775807 by omega),Zck (show(gl (rd r i) 0).length≤1000 by rw[q1];exact k1),Zck (show(gl (rd r i) 1).length≤1000 by rw[q2];exact k2),Option.bind_some]
   refine⟨_,rfl,SameL.set (SameL.set (z:=Za5 (gl (rd r i) 0) (gl (rd r i) 1) (gi (rd r i) 2) (gi (rd r i) 3)) hI ⟨q1,q2,q3,q4⟩) ?_,fun j hj=>?_⟩
   ·rw[Zbr hri]
    exact⟨q1,q2,q3,q4⟩
   ·by_cases hji:j=i
    ·subst hji;rw[Zbr (by rw[List.length_set];exact hri)];rfl
    ·rw[Zei hji,Zei hji];exact hI0.2 j (by omega)
  ·intro m r hI
   have hx:∀x∈r,nrow x=x:=fun x hx=>by
    obtain⟨j,hj,e⟩:=List.getElem_of_mem hx
    have e:rd r j=x:=by simp[rd,List.getD,hj,e]
    rw[←e];exact hI.2 j (by have:=hI.1.1;omega)
   refine⟨r,?_,hI.1,hx⟩
   simp only[Zbb,Zab,cond_false];rfl
 obtain⟨R,e3,hR,hRn⟩:=L3
 rw[e3]
 simp only[Option.bind_some]
 have L8:∃T,Zbc ((gl s 2).length+1) (((gl s 2).length:Nat):Int) 0 (V.agg [(V.int .i64 (gi s 0)),(V.sl 3 Zg 0 none),(V.sl 2 Zf 0 none),(V.int .i64 (gi s 3)),(V.sl 4 Za 0 none),(V.sl 5 Ze 0 none)]) (V.agg [(V.int .i64 0),(V.sl 6 Zg 0 none),(V.sl 7 Zf 0 none),(V.int .i64 0),(V.sl 8 Za 0 none),(V.sl 9 Ze 0 none)]) (gl s 2) R (gl s 4) (gl s 5) [] [] [] [] =
   some ((V.agg [(V.int .i64 (gi s 0)),(V.sl 2 Zg 0 none),(V.sl 3 Zf 0 none),(V.int .i64 (gi s 3)),(V.sl 4 Za 0 none),(V.sl 5 Ze 0 none)]),(V.agg [(V.int .i64 0),(V.sl 6 Zg 0 none),(V.sl 7 Zf 0 none),(V.int .i64 0),(V.sl 8 Za 0 none),(V.sl 9 Ze 0 none)]),R,T,gl s 4,gl s 5,[],[],[],[])∧SameL Zi9 T (gl s 2)∧(∀t∈T,Zf4 t=t):=by
  refine Zca (σ:=List V) (F:=fun m r i=>Zbc m (((gl s 2).length:Nat):Int) i (V.agg [(V.int .i64 (gi s 0)),(V.sl 3 Zg 0 none),(V.sl 2 Zf 0 none),(V.int .i64 (gi s 3)),(V.sl 4 Za 0 none),(V.sl 5 Ze 0 none)]) (V.agg [(V.int .i64 0),(V.sl 6 Zg 0 none),(V.sl 7 Zf 0 none),(V.int .i64 0),(V.sl 8 Za 0 none),(V.sl 9 Ze 0 none)]) r R (gl s 4) (gl s 5) [] [] [] []) (n:=(gl s 2).length) (fun i r=>SameL Zi9 r (gl s 2)∧∀j,j<i→Zf4 (rd r j)=rd r j) (fun o=>∃T,o=some ((V.agg [(V.int .i64 (gi s 0)),(V.sl 2 Zg 0 none),(V.sl 3 Zf 0 none),(V.int .i64 (gi s 3)),(V.sl 4 Za 0 none),(V.sl 5 Ze 0 none)]),(V.agg [(V.int .i64 0),(V.sl 6 Zg 0 none),(V.sl 7 Zf 0 none),(V.int .i64 0),(V.sl 8 Za 0 none),(V.sl 9 Ze 0 none)]),R,T,gl s 4,gl s 5,[],[],[],[])∧SameL Zi9 T (gl s 2)∧(∀t∈T,Zf4 t=t)) ?_ ?_ ⟨⟨rfl,fun j _=>⟨rfl,rfl⟩⟩,fun j hj=>absurd hj (Nat.not_lt_zero _)⟩
  ·intro m i r hi hI0
   have hI:=hI0.1
   obtain⟨q1,q2⟩:=hI.2 i hi
   have k1:=hk2 i hi
   have hri:i<r.length:=by rw[hI.1];exact hi
   refine .inl ?_
   simp only[Zbc,Zaj hi,Zq hri,Int.toNat_natCast,Nat.zero_add,cond_true,Zah hi (show(gl s 2).length≤9223372036854775807 by omega),Zck (show(gl (rd r i) 0).length≤1000 by rw[q1];exact k1),Option.bind_some]
   refine⟨_,rfl,hI.set ⟨q1,q2⟩,fun j hj=>?_⟩
   by_cases hji:j=i
   ·subst hji;rw[Zbr hri];rfl
   ·rw[Zei hji];exact hI0.2 j (by omega)
  ·intro m r hI
   have hx:∀x∈r,Zf4 x=x:=fun x hx=>by
    obtain⟨j,hj,e⟩:=List.getElem_of_mem hx
    have e:rd r j=x:=by simp[rd,List.getD,hj,e]
    rw[←e];exact hI.2 j (by have:=hI.1.1;omega)
   refine⟨r,?_,hI.1,hx⟩
   simp only[Zbc,Zab,cond_false];rfl
 obtain⟨T,e8,hT,hTn⟩:=L8
 refine⟨R,T,?_,hR,hT,hRn,hTn⟩
 refine Eq.trans (congrArg (fun o=>Option.bind o _) (show _=_ from e8)) ?_
 rfl
end Go.Eng.R
open Go Go.Eng
namespace Go.Eng.R
set_option maxRecDepth 100000
theorem Zlr {l:List V} {i:Nat} (hi:i<l.length) (hl:l.length≤1000):Zdd l (i:Int) (IntKind.i64.wrap ((i:Int)+1))=some (Zas l i):=by
 rw[Zax (by omega) (by omega)]
 unfold Zdd Zas
 rw[decide_eq_true (show(0:Int)≤(i:Int) by omega),decide_eq_true (show(i:Int)≤(i:Int)+1 by omega),decide_eq_true (show(i:Int)+1≤(l.length:Int) by omega),decide_eq_true (show l.length≤9223372036854775807 by omega),show((i:Int)+1).toNat=i+1 by omega,Int.toNat_natCast]
 rfl
theorem ZoH {b:Nat} {l:List V} {i:Nat} {x:V} (hi:i≤l.length) (hl:l.length≤1000) (hb:b≤64):Zcp b l (i:Int) [x]=some (Zan l i x):=by
 have hm:(l.length+1)*b≤140737488355328:=Nat.le_trans (Nat.mul_le_mul (show l.length+1≤1001 by omega) hb) (by decide)
 unfold Zcp Zan
 rw[decide_eq_true (show(0:Int)≤(i:Int) by omega),decide_eq_true (show(i:Int)≤(l.length:Int) by omega),ZhK hm (by omega),Int.toNat_natCast]
 rfl
theorem ZlR {l:List V} {i:Nat} (h:i≤l.length) (x y:V):(Zan l i x).set i y=Zan l i y:=by
 unfold Zan
 have ht:(l.take i).length=i:=by rw[List.length_take];omega
 rw[List.append_assoc,List.append_assoc,List.set_append,if_neg (by omega),ht,Nat.sub_self]
 rfl
theorem ZhT {l k:List V} (ha:AscN (fun r=>gl r 0) l):ZbP l k=lbN (fun r=>gl r 0) l k:=by
 have hle:=Zhg (fun r=>gl r 0) l k
 have hsp:=Zgr ha k
 unfold ZbP
 cases hf:Zt (fun i=>!nlt (gl (rd l i) 0) k) 0 l.length with
 | none=>
  show l.length=_
  rcases Nat.lt_or_ge (lbN (fun r=>gl r 0) l k) l.length with c | c
  ·have h1:(!nlt (gl (rd l (lbN (fun r=>gl r 0) l k)) 0) k)=false:=firstI_none.1 hf _ (Nat.zero_le _) (by omega)
   have h2:=hsp _ c
   have h2:nlt (gl (rd l (lbN (fun r=>gl r 0) l k)) 0) k=decide (lbN (fun r=>gl r 0) l k<lbN (fun r=>gl r 0) l k):=h2
   rw[h2,decide_eq_false (Nat.lt_irrefl _)] at h1;cases h1
  ·omega
 | some j=>
  obtain⟨-,h1,h2,h3⟩:=Z8 hf
  show j=_
  have h2:(!nlt (gl (rd l j) 0) k)=true:=h2
  have e2:nlt (gl (rd l j) 0) k=decide (j<lbN (fun r=>gl r 0) l k):=hsp j (by omega)
  rw[e2] at h2
  have h2:¬j<lbN (fun r=>gl r 0) l k:=by simpa using h2
  rcases Nat.lt_or_ge (lbN (fun r=>gl r 0) l k) j with c | c
  ·have h4:(!nlt (gl (rd l (lbN (fun r=>gl r 0) l k)) 0) k)=false:=h3 _ (Nat.zero_le _) c
   have e4:nlt (gl (rd l (lbN (fun r=>gl r 0) l k)) 0) k=decide (lbN (fun r=>gl r 0) l k<lbN (fun r=>gl r 0) l k):=hsp _ (by omega)
   rw[e4,decide_eq_false (Nat.lt_irrefl _)] at h4;cases h4
  ·omega
theorem ZhU {l k:List V} (ha:AscN (fun r=>gl r 0) l):Zt (fun i=>neq (gl (rd l i) 0) k) 0 l.length=bif ZcM (fun r=>gl r 0) l k then some (lbN (fun r=>gl r 0) l k) else none:=ZmW ha k
theorem Zls {nm:V→List V} {l t:List V} (h:ZcM nm l t=true):lbN nm l t<l.length:=by
 unfold ZcM at h
 rw[Bool.and_eq_true] at h
 exact of_decide_eq_true h.1
theorem ZjA {s:SD} {key val:List V} (ha:AscN (fun r=>gl r 0) s.rows) (hr:s.rows.length≤20) (ht:s.tombs.length≤1000) (hk:key.length≤1000) (hv:val.length≤1000):
  ZU s.v key val=some ((s.put key val).1,(s.put key val).2.v):=by
 have hle:=Zhg (fun r=>gl r 0) s.rows key
 unfold ZU SD.put
 rw[Zg1 (s:=s.v) (show s.rows.length≤4194304 by omega) ha key,ZhU ha,ZhT ha]
 simp only[show gl s.v 1=s.rows from rfl,show gl s.v 2=s.tombs from rfl,show gl s.v 4=s.sess from rfl,show gl s.v 5=s.lasts from rfl,Option.bind_some,Zck hk,Zck hv]
 cases hh:ZcM (fun r=>gl r 0) s.rows key with
 | true=>
  have hlt:=Zls hh
  simp only[Bool.not_true,cond_false,cond_true,Int.toNat_natCast,Nat.zero_add,List.length_set,Zq hlt,Zbr hlt,List.set_set]
  rfl
 | false=>
  simp only[Bool.not_false,cond_true,cond_false]
  by_cases h20:20≤s.rows.length
  ·rw[decide_eq_true h20,decide_eq_true (show(((s.rows.length:Nat):Int)=20) by omega)];rfl
  rw[decide_eq_false h20,decide_eq_false (show ¬(((s.rows.length:Nat):Int)=20) by omega)]
  simp only[cond_false]
  rw[ZoH hle (by omega) (Nat.le_refl _)]
  simp only[Option.bind_some]
  have hl':=Zc4 (x:=Za5 key [] 0 0) hle
  have hlt:lbN (fun r=>gl r 0) s.rows key<(Zan s.rows (lbN (fun r=>gl r 0) s.rows key) (Za5 key [] 0 0)).length:=by omega
  have hl2:lbN (fun r=>gl r 0) s.rows key<s.rows.length+1:=by omega
  have et:Zby (V.agg [(V.int .i64 (gi s.v 0)),(V.inl Zg (Zan s.rows (lbN (fun r=>gl r 0) s.rows key) (V.agg [(V.inl Zc key),(V.inl Zc []),(V.int .i64 0),(V.int .i64 0)]))),(V.inl Zf s.tombs),(V.int .i64 (gi s.v 3)),(V.inl Za s.sess),(V.inl Ze s.lasts)]) key=some (fK s.tombs key):=
   ZiC (s:=V.agg [(V.int .i64 (gi s.v 0)),(V.inl Zg (Zan s.rows (lbN (fun r=>gl r 0) s.rows key) (V.agg [(V.inl Zc key),(V.inl Zc []),(V.int .i64 0),(V.int .i64 0)]))),(V.inl Zf s.tombs),(V.int .i64 (gi s.v 3)),(V.inl Za s.sess),(V.inl Ze s.lasts)]) (show s.tombs.length≤9223372036854775807 by omega) key
  rw[et]
  simp only[Option.bind_some]
  unfold Za5 at hlt
  cases hft:Zt (fun i=>neq (gl (rd s.tombs i) 0) key) 0 s.tombs.length with
  | none=>
   rw[Zff hft,show decide ((0:Int)≤-1)=false from rfl]
   simp only[cond_false,Int.toNat_natCast,Nat.zero_add,List.length_set,Zq hlt,cond_true,Zbr hlt,List.set_set,Zi6 hle,ZlR hle,Zc4 hle,Zq hl2]
   rfl
  | some j=>
   have hj:=Zc5 hft
   rw[Zej hft,decide_eq_true (show(0:Int)≤(j:Int) by omega)]
   simp only[cond_true,Zlr hj ht,Option.bind_some,Int.toNat_natCast,Nat.zero_add,List.length_set,Zq hlt,Zbr hlt,List.set_set,Zi6 hle,ZlR hle,Zc4 hle,Zq hl2]
   rfl
theorem Zhk {s:SD} {i:Nat} (hi:i<s.rows.length) (hr:s.rows.length≤1000) (ht:s.tombs.length≤10):Zbv s.v (i:Int)=some (s.bury i).v:=by
 unfold Zbv
 simp only[show gl s.v 1=s.rows from rfl,show gl s.v 2=s.tombs from rfl,show gl s.v 4=s.sess from rfl,show gl s.v 5=s.lasts from rfl,show gi s.v 0=s.idx from rfl,show gi s.v 3=s.lost from rfl,Zq hi,Int.toNat_natCast,Nat.zero_add,cond_true,Zlr hi hr,Option.bind_some]
 rw[Z4 (by omega) (by omega)]
 simp only[cond_true]
 have hl:(s.tombs++[V.agg [V.inl Zc (gl (rd s.rows i) 0),V.int .i64 s.idx]]).length=s.tombs.length+1:=by rw[List.length_append,List.length_singleton]
 rw[hl]
 unfold SD.bury
 by_cases h10:10<s.tombs.length+1
 ·rw[decide_eq_true h10,show(((s.tombs.length+1:Nat):Int)-10).toNat+1=2 by omega]
  have e2:Z3 2 (s.b 1 2 3 4) (Zas s.rows i) (s.tombs++[V.agg [V.inl Zc (gl (rd s.rows i) 0),V.int .i64 s.idx]]) s.sess s.lasts =
    some (V.agg [(V.int .i64 s.idx),(V.sl 1 Zg 0 none),(V.sl 2 Zf 0 none),(V.int .i64 (gi (rd (s.tombs++[V.agg [V.inl Zc (gl (rd s.rows i) 0),V.int .i64 s.idx]]) 0) 1)),(V.sl 3 Za 0 none),(V.sl 4 Ze 0 none)],Zas s.rows i,(s.tombs++[V.agg [V.inl Zc (gl (rd s.rows i) 0),V.int .i64 s.idx]]).drop 1,s.sess,s.lasts):=by
   have ed:Zdd (s.tombs++[V.agg [V.inl Zc (gl (rd s.rows i) 0),V.int .i64 s.idx]]) 0 1=some ((s.tombs++[V.agg [V.inl Zc (gl (rd s.rows i) 0),V.int .i64 s.idx]]).drop 1):=by
    unfold Zdd
    rw[hl,decide_eq_true (show(1:Int)≤((s.tombs.length+1:Nat):Int) by omega),decide_eq_true (show s.tombs.length+1≤9223372036854775807 by omega)];rfl
   rw[Z3,hl,decide_eq_true (show(10:Int)<((s.tombs.length+1:Nat):Int) by omega),show Zn 0 (s.tombs.length+1)=true from Zq (i:=0) (by omega),ed]
   simp only[cond_true,Option.bind_some]
   rw[Z3,List.length_drop,hl,decide_eq_false (show ¬(10:Int)<((s.tombs.length+1-1:Nat):Int) by omega)]
   rfl
  refine Eq.trans (congrArg (fun o=>Option.bind o _) (show _=_ from e2)) ?_
  rfl
 ·rw[decide_eq_false h10,show(((s.tombs.length+1:Nat):Int)-10).toNat+1=1 by omega]
  have e2:Z3 1 (s.b 1 2 3 4) (Zas s.rows i) (s.tombs++[V.agg [V.inl Zc (gl (rd s.rows i) 0),V.int .i64 s.idx]]) s.sess s.lasts =
    some (s.b 1 2 3 4,Zas s.rows i,s.tombs++[V.agg [V.inl Zc (gl (rd s.rows i) 0),V.int .i64 s.idx]],s.sess,s.lasts):=by
   rw[Z3,hl,decide_eq_false (show ¬(10:Int)<((s.tombs.length+1:Nat):Int) by omega)];rfl
  refine Eq.trans (congrArg (fun o=>Option.bind o _) (show _=_ from e2)) ?_
  rfl
theorem Zk3 {s:SD} {i:Nat} (hi:i<s.rows.length) (ht:s.tombs.length≤10):(s.bury i).rows.length=s.rows.length-1∧(s.bury i).tombs.length≤10:=by
 unfold SD.bury
 by_cases h:10<s.tombs.length+1
 ·rw[decide_eq_true h]
  exact⟨Zde hi,by show((s.tombs++[_]).drop 1).length≤10;rw[List.length_drop,List.length_append,List.length_singleton];omega⟩
 ·rw[decide_eq_false h]
  exact⟨Zde hi,by show(s.tombs++[_]).length≤10;rw[List.length_append,List.length_singleton];omega⟩
theorem ZeB {id:Int} {del:Bool}:∀(n k:Nat) (s:SD),k≤s.rows.length→s.rows.length-k≤n→s.rows.length≤1000→s.tombs.length≤10→∀m,s.rows.length-k<m→
  Z7 m id del (k:Int) (s.b 1 2 3 4) s.rows s.tombs s.sess s.lasts=some ((SD.shutL id del n k s).b 1 2 3 4,(SD.shutL id del n k s).rows,(SD.shutL id del n k s).tombs,(SD.shutL id del n k s).sess,(SD.shutL id del n k s).lasts)
 | n,k,s,hk,hn,hb,ht,0,hm=>by omega
 | 0,k,s,hk,hn,hb,ht,m+1,hm=>by
  obtain rfl:k=s.rows.length:=by omega
  rw[Z7,Zab];rfl
 | n+1,k,s,hk,hn,hb,ht,m+1,hm=>by
  by_cases h:k<s.rows.length
  case neg=>
   obtain rfl:k=s.rows.length:=by omega
   rw[Z7,Zab,SD.shutL,decide_eq_false h];rfl
  rw[Z7,SD.shutL,decide_eq_true h]
  simp only[Zaj h,Zq h,Nat.zero_add,Int.toNat_natCast,cond_true,Zah h (show s.rows.length≤9223372036854775807 by omega)]
  by_cases hh:gi (rd s.rows k) 3=id
  case neg=>
   rw[decide_eq_false hh]
   exact ZeB n (k+1) s (by omega) (by omega) hb ht m (by omega)
  rw[decide_eq_true hh]
  cases del with
  | true=>
   obtain⟨l1,l2⟩:=Zk3 h ht
   simp only[Bool.not_true,cond_false,cond_true]
   refine Eq.trans (congrArg (fun o=>Option.bind o _) (show _=_ from Zhk h hb ht)) ?_
   have e1:IntKind.i64.wrap (IntKind.i64.wrap ((k:Int)-1)+1)=(k:Int):=by rw[Zax (n:=(k:Int)-1) (by omega) (by omega),Zax (by omega) (by omega)];omega
   rw[e1]
   exact ZeB n k (s.bury k) (by omega) (by omega) (by omega) l2 m (by omega)
  | false=>
   simp only[Bool.not_true,cond_false,List.length_set,Zq h,cond_true,Zbr h,List.set_set]
   exact ZeB n (k+1) { s with rows:=s.rows.set k (Za5 (gl (rd s.rows k) 0) (gl (rd s.rows k) 1) s.idx 0) } (by show k+1≤(s.rows.set k _).length;rw[List.length_set];omega) (by show(s.rows.set k _).length-(k+1)≤n;rw[List.length_set];omega) (by show(s.rows.set k _).length≤1000;rw[List.length_set];exact hb) ht m (by show(s.rows.set k _).length-(k+1)<m;rw[List.length_set];omega)
theorem Znt {s:SD} {id:Int} (hr:s.rows.length≤1000) (ht:s.tombs.length≤10) (hs:s.sess.length≤1000):ZbM s.v id=(match s.sessAt id with | some i=>some (0,(s.shut i).v) | none=>some (1,s.v)):=by
 unfold ZbM SD.sessAt
 rw[Ze4 (s:=s.v) (show s.sess.length≤9223372036854775807 by omega) id]
 simp only[Option.bind_some,show gl s.v 4=s.sess from rfl]
 cases hf:Zt (fun i=>decide (gi (rd s.sess i) 0=id)) 0 s.sess.length with
 | none=>rw[Zf9 hf];rfl
 | some j=>
  obtain⟨-,h1,h2,-⟩:=Z8 hf
  have hj:j<s.sess.length:=by omega
  have h2:gi (rd s.sess j) 0=id:=of_decide_eq_true h2
  rw[Zf8 hf,decide_eq_false (show ¬(j:Int)<0 by omega)]
  simp only[cond_false,Zq hj,cond_true,Zlr hj hs,Option.bind_some,Int.toNat_natCast,Nat.zero_add,show gl s.v 1=s.rows from rfl,show gl s.v 2=s.tombs from rfl,show gl s.v 5=s.lasts from rfl,Za0]
  subst h2
  refine Eq.trans (congrArg (fun o=>Option.bind o _) (show _=_ from ZeB (id:=gi (rd s.sess j) 0) (del:=gb (rd s.sess j) 1) s.rows.length 0 { s with sess:=Zas s.sess j } (Nat.zero_le _) (by show s.rows.length-0≤_;omega) hr ht (s.rows.length+1) (by show s.rows.length-0<_;omega))) ?_
  rfl
end Go.Eng.R
open Go Go.Eng
namespace Go.Eng.R
set_option maxRecDepth 100000
theorem ZiH {q:Nat→Bool} {n j:Nat} (hj:j<n) (h1:q j=true) (h0:∀t,t<j→q t=false):Zt q 0 n=some j:=by
 cases hf:Zt q 0 n with
 | none=>have:=firstI_none.1 hf j (Nat.zero_le _) (by omega);rw[h1] at this;cases this
 | some i=>
  obtain⟨-,h2,h3,h4⟩:=Z8 hf
  rcases Nat.lt_trichotomy i j with c | c | c
  ·rw[h0 i c] at h3;cases h3
  ·rw[c]
  ·have:=h4 j (Nat.zero_le _) c;rw[h1] at this;cases this
theorem Zlt {l:List V} {i t:Nat} {x:V} (hi:i≤l.length) (h:t<i):rd (Zan l i x) t=rd l t:=by
 unfold Zan rd
 have ht:(l.take i).length=i:=by rw[List.length_take];omega
 simp only[List.getD]
 rw[List.append_assoc,List.getElem?_append_left (by omega),List.getElem?_take,if_pos h]
theorem put_at {s:SD} {key val:List V} (ha:AscN (fun r=>gl r 0) s.rows) (h:(s.put key val).1=true):
  Zt (fun i=>neq (gl (rd (s.put key val).2.rows i) 0) key) 0 (s.put key val).2.rows.length=some (lbN (fun r=>gl r 0) s.rows key)∧lbN (fun r=>gl r 0) s.rows key<(s.put key val).2.rows.length:=by
 have hle:=Zhg (fun r=>gl r 0) s.rows key
 have hf:=ZhU (k:=key) ha
 revert h
 unfold SD.put
 rw[hf]
 cases hh:ZcM (fun r=>gl r 0) s.rows key with
 | true=>
  intro _
  have hlt:=Zls hh
  rw[hh] at hf
  obtain⟨-,h1,h2,h3⟩:=Z8 hf
  have hl:(s.rows.set (lbN (fun r=>gl r 0) s.rows key) (Za5 (gl (rd s.rows (lbN (fun r=>gl r 0) s.rows key)) 0) val s.idx (gi (rd s.rows (lbN (fun r=>gl r 0) s.rows key)) 3))).length=s.rows.length:=List.length_set
  refine⟨ZiH (by rw[←hl] at hlt;exact hlt) ?_ fun t ht=>?_,by rw[←hl] at hlt;exact hlt⟩
  ·show neq (gl (rd (s.rows.set _ _) _) 0) key=true
   rw[Zbr hlt];exact h2
  ·show neq (gl (rd (s.rows.set _ _) _) 0) key=false
   rw[Zei (by omega)];exact h3 t (Nat.zero_le _) ht
 | false=>
  simp only[cond_false]
  by_cases h20:20≤s.rows.length
  ·rw[dT h20];intro h;cases h
  rw[dF h20]
  intro _
  rw[ZhT ha]
  have hl:=Zc4 (x:=Za5 key val s.idx 0) hle
  have hlt:lbN (fun r=>gl r 0) s.rows key<(Zan s.rows (lbN (fun r=>gl r 0) s.rows key) (Za5 key val s.idx 0)).length:=by omega
  refine⟨ZiH hlt ?_ fun t ht=>?_,hlt⟩
  ·show neq (gl (rd (Zan _ _ _) _) 0) key=true
   rw[Zi6 hle];exact ZeH key
  ·show neq (gl (rd (Zan _ _ _) _) 0) key=false
   rw[Zlt hle ht]
   have:=Zgr ha key t (by omega)
   rw[decide_eq_true ht] at this
   exact Zi0 this
def opK (k:Int):Prop:=k=1∨k=2∨k=3∨k=6∨k=7
theorem iputP {s:SD} {key val:List V} (ha:AscN (fun r=>gl r 0) s.rows) (hr:s.rows.length≤20) (ht:s.tombs.length≤1000) (hk:key.length≤1000) (hv:val.length≤1000):
  (Option.bind (ZU (Zd s.v) key val) fun r=>bif (!r.1) then some ((4:Int),(Zd r.2)) else some (0,(Zd r.2)))=some ((s.puts key val).1,(s.puts key val).2.v):=by
 refine Eq.trans (congrArg (fun o=>Option.bind o _) (show _=_ from ZjA ha hr ht hk hv)) ?_
 unfold SD.puts Zeb
 cases(s.put key val).1 <;> rfl
theorem itakeP {s:SD} {key val:List V} {n:Int} (ha:AscN (fun r=>gl r 0) s.rows) (hr:s.rows.length≤20) (ht:s.tombs.length≤1000) (hk:key.length≤1000) (hv:val.length≤1000):
  (Option.bind (ZU (Zd s.v) key val) fun r=>bif (!r.1) then some ((4:Int),(Zd r.2)) else
   bif (Zn (((lbN (fun r=>gl r 0) s.rows key:Nat):Int)) ((gl r.2 1).length)) then some (0,(V.agg [(V.int .i64 (gi r.2 0)),(V.inl Zg ((gl r.2 1).set (lbN (fun r=>gl r 0) s.rows key) (V.agg [(V.inl Zc (gl (rd (gl r.2 1) (lbN (fun r=>gl r 0) s.rows key)) 0)),(V.inl Zc (gl (rd (gl r.2 1) (lbN (fun r=>gl r 0) s.rows key)) 1)),(V.int .i64 (gi (rd (gl r.2 1) (lbN (fun r=>gl r 0) s.rows key)) 2)),(V.int .i64 n)]))),(V.inl Zf (gl r.2 2)),(V.int .i64 (gi r.2 3)),(V.inl Za (gl r.2 4)),(V.inl Ze (gl r.2 5))])) else none) =
  some ((bif (s.put key val).1 then((0:Int),(s.put key val).2.hold key n) else(4,(s.put key val).2)).1,(bif (s.put key val).1 then((0:Int),(s.put key val).2.hold key n) else(4,(s.put key val).2)).2.v):=by
 refine Eq.trans (congrArg (fun o=>Option.bind o _) (show _=_ from ZjA ha hr ht hk hv)) ?_
 have hp:=put_at (s:=s) (key:=key) (val:=val) ha
 revert hp
 generalize s.put key val=q
 obtain⟨b,q⟩:=q
 intro hp
 cases b with
 | false=>rfl
 | true=>
  obtain⟨hf,hj⟩:=hp rfl
  simp only[Option.bind_some,Bool.not_true,cond_false,cond_true,show gl q.v 1=q.rows from rfl]
  rw[Zq hj]
  unfold SD.hold
  rw[show Zt (fun i=>neq (gl (rd q.rows i) 0) key) 0 q.rows.length=some (lbN (fun r=>gl r 0) s.rows key) from hf]
  rfl
theorem Zpf {s:SD} {o:V} (ha:AscN (fun r=>gl r 0) s.rows) (hr:s.rows.length≤20) (ht:s.tombs.length≤10) (hs:s.sess.length≤8) (hk:(gl o 1).length≤1000) (hv:(gl o 2).length≤1000) (hk0:opK (gi o 0)→0<(gl o 1).length):
  Zbn s.v o=some ((s.do' (gi o 0) (gl o 1) (gl o 2) (gi o 3)).1,(s.do' (gi o 0) (gl o 1) (gl o 2) (gi o 3)).2.v):=by
 have er:ZaR (Zd s.v) (gl o 1)=some (((lbN (fun r=>gl r 0) s.rows (gl o 1):Nat):Int),ZcM (fun r=>gl r 0) s.rows (gl o 1)):=Zg1 (s:=s.v) (show s.rows.length≤4194304 by omega) ha _
 have es:Zal (Zd s.v) (gi o 3)=some (fI s.sess (gi o 3)):=Ze4 (s:=s.v) (show s.sess.length≤9223372036854775807 by omega) _
 have eh:ZbM (Zd s.v) (gi o 3)=_:=Znt (s:=s) (id:=gi o 3) (by omega) ht (by omega)
 have pp:=iputP (s:=s) (key:=gl o 1) (val:=gl o 2) ha hr (by omega) hk hv
 have tp:=itakeP (s:=s) (key:=gl o 1) (val:=gl o 2) (n:=gi o 3) ha hr (by omega) hk hv
 have hlk:opK (gi o 0)→s.look (gl o 1)=bif ZcM (fun r=>gl r 0) s.rows (gl o 1) then some (lbN (fun r=>gl r 0) s.rows (gl o 1)) else none:=fun h=>by
  unfold SD.look;rw[dT (hk0 h),cond_true];exact ZhU ha
 have hlt:=Zls (nm:=fun r=>gl r 0) (l:=s.rows) (t:=gl o 1)
 unfold Zbn SD.do'
 simp only[er,es,eh,Option.bind_some,show gl s.v 1=s.rows from rfl,show gl s.v 2=s.tombs from rfl,show gl s.v 4=s.sess from rfl,show gl s.v 5=s.lasts from rfl,show gi s.v 0=s.idx from rfl,show gi s.v 3=s.lost from rfl,Int.toNat_natCast,Nat.zero_add]
 clear er es eh hk0 hk hv
 generalize gl o 1=key at *
 generalize gl o 2=val at *
 generalize gi o 3=n at *
 generalize gi o 0=k at *
 by_cases h1:k=1
 ·rw[dT h1]
  simp only[cond_true]
  rw[dF (show ¬k=2 by omega)]
  cases hh:ZcM (fun r=>gl r 0) s.rows key with
  | false=>exact pp
  | true=>rw[Zq (hlt hh)];exact pp
 rw[dF h1]
 by_cases h2:k=2
 ·rw[dT h2,hlk (.inr (.inl h2))]
  simp only[cond_false,cond_true]
  cases hh:ZcM (fun r=>gl r 0) s.rows key with
  | false=>
   simp only[cond_false]
   by_cases hn:(0:Int)=n
   ·rw[dT hn];exact pp
   ·rw[dF hn];rfl
  | true=>
   rw[Zq (hlt hh)]
   simp only[cond_true]
   by_cases hn:gi (rd s.rows (lbN (fun r=>gl r 0) s.rows key)) 2=n
   ·rw[dT hn];exact pp
   ·rw[dF hn];rfl
 rw[dF h2]
 by_cases h3:k=3
 ·rw[dT h3,hlk (.inr (.inr (.inl h3)))]
  simp only[cond_false,cond_true]
  cases hh:ZcM (fun r=>gl r 0) s.rows key with
  | false=>rfl
  | true=>
   simp only[Bool.not_true,cond_false,cond_true]
   refine Eq.trans (congrArg (fun o=>Option.bind o _) (show _=_ from Zhk (s:=s) (hlt hh) (by omega) ht)) ?_
   rfl
 rw[dF h3]
 by_cases h4:k=4
 ·rw[dT h4]
  simp only[cond_false,cond_true]
  by_cases h8:8≤s.sess.length
  ·rw[dT h8,dT (show(((s.sess.length:Nat):Int)=8) by omega)];rfl
  ·rw[dF h8,dF (show ¬(((s.sess.length:Nat):Int)=8) by omega),Z4 (by omega) (by omega)];rfl
 rw[dF h4]
 by_cases h5:k=5
 ·rw[dT h5]
  simp only[cond_false,cond_true]
  cases hf:s.sessAt n with
  | none=>rfl
  | some j=>rfl
 rw[dF h5]
 by_cases h6:k=6
 ·rw[dT h6,hlk (.inr (.inr (.inr (.inl h6))))]
  simp only[cond_false,cond_true]
  unfold SD.sessAt
  cases hf:Zt (fun i=>decide (gi (rd s.sess i) 0=n)) 0 s.sess.length with
  | none=>rw[Zf9 hf];rfl
  | some j=>
   rw[Zf8 hf,dF (show ¬(j:Int)<0 by omega)]
   simp only[cond_false]
   cases hh:ZcM (fun r=>gl r 0) s.rows key with
   | false=>exact tp
   | true=>
    rw[Zq (hlt hh)]
    simp only[cond_true]
    by_cases hz:gi (rd s.rows (lbN (fun r=>gl r 0) s.rows key)) 3=0
    ·rw[dT hz];exact tp
    rw[dF hz]
    by_cases hn:gi (rd s.rows (lbN (fun r=>gl r 0) s.rows key)) 3=n
    ·rw[dT hn];exact tp
    ·rw[dF hn];rfl
 rw[dF h6]
 by_cases h7:k=7
 ·rw[dT h7,hlk (.inr (.inr (.inr (.inr h7))))]
  simp only[cond_false,cond_true]
  cases hh:ZcM (fun r=>gl r 0) s.rows key with
  | false=>rfl
  | true=>
   have hj:=hlt hh
   rw[Zq hj]
   simp only[Bool.not_true,cond_true,cond_false,List.length_set,Zq hj,Zbr hj,List.set_set]
   by_cases hn:gi (rd s.rows (lbN (fun r=>gl r 0) s.rows key)) 3=n
   ·rw[dT hn];rfl
   ·rw[dF hn];rfl
 rw[dF h7]
 rfl
theorem Zk4 {l:List V} {c:Int} (ha:AscI l):Za9 l c=lbI l c:=by
 have hle:=Zk2 l c
 have hsp:=Zfh ha c
 unfold Za9
 cases hf:Zt (fun i=>!decide (gi (rd l i) 0<c)) 0 l.length with
 | none=>
  show l.length=_
  rcases Nat.lt_or_ge (lbI l c) l.length with h | h
  ·have h1:(!decide (gi (rd l (lbI l c)) 0<c))=false:=firstI_none.1 hf _ (Nat.zero_le _) (by omega)
   rw[hsp _ h,decide_eq_false (Nat.lt_irrefl _)] at h1;cases h1
  ·omega
 | some j=>
  obtain⟨-,h1,h2,h3⟩:=Z8 hf
  show j=_
  have h2:(!decide (gi (rd l j) 0<c))=true:=h2
  rw[hsp j (by omega)] at h2
  have h2:¬j<lbI l c:=by simpa using h2
  rcases Nat.lt_or_ge (lbI l c) j with h | h
  ·have h4:(!decide (gi (rd l (lbI l c)) 0<c))=false:=h3 _ (Nat.zero_le _) h
   rw[hsp _ (by omega),decide_eq_false (Nat.lt_irrefl _)] at h4;cases h4
  ·omega
theorem Zh3 {s:SD} {c:V} (ha:AscN (fun r=>gl r 0) s.rows) (hr:s.rows.length≤20) (ht:s.tombs.length≤10) (hs:s.sess.length≤8) (hl:s.lasts.length≤1000) (hla:AscI s.lasts) (hlb:∀i,i<s.lasts.length→0≤gi (rd s.lasts i) 0∧gi (rd s.lasts i) 0≤3) (hi0:0≤s.idx) (hi1:s.idx≤1000000)
  (hk:(gl c 3).length≤1000) (hv:(gl c 4).length≤1000) (hk0:opK (gi c 2)→0<(gl c 3).length) (hc:gi c 0<0∨(0≤gi c 0∧gi c 0≤3)):
  Za4 s.v (Zl c)=some ((V.agg [(V.int .i64 (s.apply c).1.1),(V.int .i64 (s.apply c).1.2)]),(s.apply c).2.v):=by
 have ew:IntKind.i64.wrap (s.idx+1)=s.idx+1:=Zax (by omega) (by omega)
 unfold Za4 SD.apply
 simp only[show gi (Zl c) 0=gi c 0 from rfl,show gi (Zl c) 1=gi c 1 from rfl,show gi (Zl c) 2=gi c 2 from rfl,show gl (Zl c) 3=gl c 3 from rfl,show gl (Zl c) 4=gl c 4 from rfl,show gi (Zl c) 5=gi c 5 from rfl,show gl s.v 1=s.rows from rfl,show gl s.v 2=s.tombs from rfl,show gl s.v 4=s.sess from rfl,show gl s.v 5=s.lasts from rfl,show gi s.v 0=s.idx from rfl,show gi s.v 3=s.lost from rfl,ew]
 by_cases h0:gi c 0<0
 ·rw[dT h0];rfl
 rw[dF h0]
 have hc':0≤gi c 0∧gi c 0≤3:=by omega
 have el:Zcd (V.agg [(V.int .i64 (s.idx+1)),(V.inl Zg s.rows),(V.inl Zf s.tombs),(V.int .i64 s.lost),(V.inl Za s.sess),(V.inl Ze s.lasts)]) (gi c 0)=some (((lbI s.lasts (gi c 0):Nat):Int),Zgw s.lasts (gi c 0)):=by
  unfold Zcd
  show Option.bind (ZaZ s.lasts (gi c 0)) _=_
  rw[bsI_eq (by omega) hla hlb hc'];rfl
 rw[el]
 have ed:=Zpf (s:=s.up) (o:=V.agg [(V.int .i64 (gi c 2)),(V.inl Zc (gl c 3)),(V.inl Zc (gl c 4)),(V.int .i64 (gi c 5))]) ha hr ht hs hk hv hk0
 have ed':Zbn (V.agg [(V.int .i64 (s.idx+1)),(V.inl Zg s.rows),(V.inl Zf s.tombs),(V.int .i64 s.lost),(V.inl Za s.sess),(V.inl Ze s.lasts)]) (V.agg [(V.int .i64 (gi c 2)),(V.inl Zc (gl c 3)),(V.inl Zc (gl c 4)),(V.int .i64 (gi c 5))])=some ((s.up.do' (gi c 2) (gl c 3) (gl c 4) (gi c 5)).1,(s.up.do' (gi c 2) (gl c 3) (gl c 4) (gi c 5)).2.v):=ed
 have hdl:(s.up.do' (gi c 2) (gl c 3) (gl c 4) (gi c 5)).2.lasts=s.lasts:=ZjO s.up _ _ _ _
 rw[Zk4 hla]
 clear ed el
 generalize s.up.do' (gi c 2) (gl c 3) (gl c 4) (gi c 5)=q at *
 obtain⟨qc,q⟩:=q
 have hdl:q.lasts=s.lasts:=hdl
 simp only[Option.bind_some,cond_false,ed']
 have hle:=Zk2 s.lasts (gi c 0)
 have ehas:(decide (lbI s.lasts (gi c 0)<s.lasts.length)&&decide (gi (rd s.lasts (lbI s.lasts (gi c 0))) 0=gi c 0))=Zgw s.lasts (gi c 0):=rfl
 rw[ehas]
 cases hh:Zgw s.lasts (gi c 0) with
 | true=>
  have hh':=hh
  unfold Zgw at hh'
  rw[Bool.and_eq_true] at hh'
  have hlt:lbI s.lasts (gi c 0)<s.lasts.length:=of_decide_eq_true hh'.1
  have he:gi (rd s.lasts (lbI s.lasts (gi c 0))) 0=gi c 0:=of_decide_eq_true hh'.2
  simp only[cond_true,Zq hlt,Int.toNat_natCast,Nat.zero_add,show gl q.v 5=q.lasts from rfl,hdl,he]
  cases decide (gi (rd s.lasts (lbI s.lasts (gi c 0))) 1=gi c 1) with
  | true=>rfl
  | false=>
   simp only[cond_false]
   cases decide (gi c 1<gi (rd s.lasts (lbI s.lasts (gi c 0))) 1) with
   | true=>rfl
   | false=>rfl
 | false=>
  simp only[cond_false,show gl q.v 5=q.lasts from rfl,hdl]
  rw[ZoH hle hl (by decide)]
  rfl
end Go.Eng.R
open Go Go.Eng
namespace Go.Eng.R
set_option maxRecDepth 100000
def BL (l:List V):Prop:=LW ZaB l∧l.length≤40
theorem BS.bl {l:List V} (h:BS l):BL l:=⟨h.1,by have:=h.2;omega⟩
theorem BL.nil:BL []:=BS.nil.bl
def B_Op (x:V):Prop:=I64 (gi x 0)∧BL (gl x 1)∧BL (gl x 2)∧I64 (gi x 3)
def B_Cmd (x:V):Prop:=I64 (gi x 0)∧I64 (gi x 1)∧I64 (gi x 2)∧BL (gl x 3)∧BL (gl x 4)∧I64 (gi x 5)
theorem smallI {n:Int} (h0 : -4294967296≤n) (h1:n≤4294967296):I64 n:=⟨by omega,by omega⟩
theorem bentOp_O {c:V} (h:ZP c):Ok2 (fun x c=>ZP c∧B_Op x) (Zey (Zb c)):=by
 unfold Zey
 refine .of ?_
 refine Ok.bind2 (op_K h 6) ?_
 rintro o c1 ⟨h1,hk,hv,hi,hn⟩
 have hk':BL (gl o 1):=by
  rcases hk with hk | ⟨hk,-⟩
  ·exact(Zi7 hk).bl
  ·rw[hk];exact BL.nil
 have hks:(gl o 1).length≤20:=by
  rcases hk with hk | ⟨hk,-⟩
  ·exact(Zi7 hk).2
  ·rw[hk];exact Nat.zero_le _
 refine Ok.bind2 (ZfG h1 6) ?_
 rintro b c2 h2
 cases b with
 | false=>exact⟨_,rfl,h2,hi,hk',hv.bl,hn⟩
 | true=>
 simp only[cond_true]
 refine Ok.bind2 (Zb1 h2 4) ?_
 rintro k c3 ⟨h3,-,-,-⟩
 refine .ite (fun _=>?_) (fun _=>.ite (fun _=>?_) (fun _=>.ite (fun _=>?_) (fun _=>?_)))
 ·refine Ok.bind2 (ZfH h3 (by decide) ⟨⟨by decide,by decide⟩,⟨by decide,by decide⟩,⟨by decide,by decide⟩,⟨by decide,by decide⟩,trivial⟩) ?_
  rintro x c4 ⟨h4,hx⟩
  exact⟨_,rfl,h4,hx,hk',hv.bl,hn⟩
 ·refine .chk (Z4 (by omega) (by omega)) ⟨_,rfl,h3,hi,⟨LW.snoc hk'.1 (by omega) ⟨by show(0:Int)≤65;decide,by show(65:Int)≤255;decide⟩,?_⟩,hv.bl,hn⟩
  show(gl o 1++[_]).length≤40
  rw[List.length_append,List.length_singleton];omega
 ·refine Ok.bind2 (Zb1 h3 2) ?_
  rintro y c4 ⟨h4,y0,-,y1⟩
  have e:IntKind.i64.wrap (20+y)=20+y:=Zax (by omega) (by omega)
  rw[e,decide_eq_true (show(0:Int)≤20+y by omega),decide_eq_true (p:=True) trivial,ZhK (show(20+y).toNat*1≤140737488355328 by omega) (show(20+y).toNat≤9223372036854775807 by omega)]
  refine⟨_,rfl,h4,hi,hk',⟨LW.rep (by omega) ⟨by show(0:Int)≤0;decide,by show(0:Int)≤255;decide⟩,?_⟩,hn⟩
  show(List.replicate _ _).length≤40
  rw[List.length_replicate];omega
 ·refine Ok.bind2 (ZfH h3 (by decide) ⟨⟨by decide,by decide⟩,⟨by decide,by decide⟩,⟨by decide,by decide⟩,⟨by decide,by decide⟩,⟨by decide,by decide⟩,⟨by decide,by decide⟩,trivial⟩) ?_
  rintro x c4 ⟨h4,hx⟩
  exact⟨_,rfl,h4,hi,hk',hv.bl,hx⟩
theorem reqs_P {c:V} (h:ZP c):Ok2 (fun x c=>ZP c∧I64 x) (ZN (Zb c) [(V.int .i64 (-1)),(V.int .i64 0),(V.int .i64 1),(V.int .i64 1000000),(V.int .i64 1000001)]):=
 ZfH h (by decide) ⟨⟨by decide,by decide⟩,⟨by decide,by decide⟩,⟨by decide,by decide⟩,⟨by decide,by decide⟩,⟨by decide,by decide⟩,trivial⟩
theorem Zk5 {c:V} (h:ZP c):Ok2 (fun x c=>ZP c∧I64 x) (ZN (Zb c) [(V.int .i64 (-2)),(V.int .i64 (-1)),(V.int .i64 3),(V.int .i64 4)]):=
 ZfH h (by decide) ⟨⟨by decide,by decide⟩,⟨by decide,by decide⟩,⟨by decide,by decide⟩,⟨by decide,by decide⟩,trivial⟩
theorem ZiI {c:V} (h:ZP c):Ok2 (fun x c=>ZP c∧B_Cmd x) (Zcx (Zb c)):=by
 unfold Zcx
 have z:I64 0:=⟨by decide,by decide⟩
 have m:I64 (-1):=⟨by decide,by decide⟩
 refine .of ?_
 refine Ok.bind2 (Zb1 h 4) ?_
 rintro a c1 ⟨h1,a0,a1,-⟩
 have ai:I64 a:=smallI (by omega) (by omega)
 refine Ok.bind2 (Zb1 h1 25) ?_
 rintro b c2 ⟨h2,-,-,-⟩
 refine Ok.bind2 (bentOp_O h2) ?_
 rintro o c3 ⟨h3,o1,o2,o3,o4⟩
 refine Ok.bind2 (ZfG h3 8) ?_
 rintro t c4 h4
 refine .ite (fun _=>?_) (fun _=>?_)
 ·refine Ok.bind2 (ZfG h4 10) ?_
  rintro t c5 h5
  refine .ite (fun _=>?_) (fun _=>?_)
  ·refine Ok.bind2 (reqs_P h5) ?_
   rintro x c6 ⟨h6,hx⟩
   refine Ok.bind2 (ZfG h6 20) ?_
   rintro t c7 h7
   refine .ite (fun _=>?_) (fun _=>⟨_,rfl,h7,m,hx,z,BL.nil,BL.nil,z⟩)
   refine Ok.bind2 (Zk5 h7) ?_
   rintro y c8 ⟨h8,hy⟩
   exact⟨_,rfl,h8,hy,hx,z,BL.nil,BL.nil,z⟩
  ·refine Ok.bind2 (ZfG h5 20) ?_
   rintro t c7 h7
   refine .ite (fun _=>?_) (fun _=>⟨_,rfl,h7,m,z,z,BL.nil,BL.nil,z⟩)
   refine Ok.bind2 (Zk5 h7) ?_
   rintro y c8 ⟨h8,hy⟩
   exact⟨_,rfl,h8,hy,z,z,BL.nil,BL.nil,z⟩
 ·refine Ok.bind2 (ZfG h4 10) ?_
  rintro t c5 h5
  refine .ite (fun _=>?_) (fun _=>?_)
  ·refine Ok.bind2 (reqs_P h5) ?_
   rintro x c6 ⟨h6,hx⟩
   refine Ok.bind2 (ZfG h6 20) ?_
   rintro t c7 h7
   refine .ite (fun _=>?_) (fun _=>⟨_,rfl,h7,ai,hx,o1,o2,o3,o4⟩)
   refine Ok.bind2 (Zk5 h7) ?_
   rintro y c8 ⟨h8,hy⟩
   exact⟨_,rfl,h8,hy,hx,o1,o2,o3,o4⟩
  ·refine Ok.bind2 (ZfG h5 20) ?_
   rintro t c7 h7
   refine .ite (fun _=>?_) (fun _=>⟨_,rfl,h7,ai,wrI _,o1,o2,o3,o4⟩)
   refine Ok.bind2 (Zk5 h7) ?_
   rintro y c8 ⟨h8,hy⟩
   exact⟨_,rfl,h8,hy,wrI _,o1,o2,o3,o4⟩
end Go.Eng.R
open Go Go.Eng
namespace Go.Eng.R
set_option maxRecDepth 100000
def kc (r:V):List Int:=ZbT (gl r 0)
theorem Znu (a b:V):neq (gl a 0) (gl b 0)=decide (kc a=kc b):=ZcD _ _
theorem ZfI (a b:List V):neq a b=decide (ZbT a=ZbT b):=ZcD _ _
structure VS (x:Int) (s:SD):Prop where
 i0:0≤s.idx
 i1:s.idx≤1000000
 l0:0≤s.lost
 l1:s.lost≤s.idx
 nr:s.rows.length≤20
 nt:s.tombs.length≤10
 ns:s.sess.length≤8
 nl:s.lasts.length≤4
 rows:∀r∈s.rows,Zcj (gl r 0)=true∧(gl r 1).length≤20∧1≤gi r 2∧gi r 2≤s.idx
 hold:∀r∈s.rows,gi r 3=0∨gi r 3=x∨∃y∈s.sess,gi y 0=gi r 3
 asc:AscN (fun r=>gl r 0) s.rows
 tombs:∀t∈s.tombs,Zcj (gl t 0)=true∧1≤gi t 1∧gi t 1≤s.idx∧s.lost≤gi t 1
 ord:(s.tombs.map fun t=>gi t 1).Pairwise (·≤·)
 nd:(s.rows.map kc++s.tombs.map kc).Nodup
 sess:∀y∈s.sess,1≤gi y 0∧gi y 0≤s.idx
 sasc:AscI s.sess
 lasts:∀l∈s.lasts,0≤gi l 0∧gi l 0≤3∧1≤gi l 1∧gi l 1≤1000000∧0≤gi l 2∧gi l 2≤5∧1≤gi l 3∧gi l 3≤s.idx
 lasc:AscI s.lasts
 wr:∀r∈s.rows,LW ZaB (gl r 0)∧LW ZaB (gl r 1)
 wt:∀t∈s.tombs,LW ZaB (gl t 0)
theorem pw_of {α β:Type} {l:List α} {f:α→β} {R:β→β→Prop} (h:∀i j (hi:i<l.length) (hj:j<l.length),i<j→R (f l[i]) (f l[j])):(l.map f).Pairwise R:=by
 rw[List.pairwise_iff_getElem]
 intro i j hi hj hij
 rw[List.getElem_map,List.getElem_map]
 rw[List.length_map] at hi hj
 exact h i j hi hj hij
theorem pw_at {β:Type} {l:List V} {f:V→β} {R:β→β→Prop} (h:(l.map f).Pairwise R) {i j:Nat} (hj:j<l.length) (hij:i<j):R (f (rd l i)) (f (rd l j)):=by
 rw[List.pairwise_iff_getElem] at h
 have:=h i j (by rw[List.length_map];omega) (by rw[List.length_map];omega) hij
 rw[List.getElem_map,List.getElem_map] at this
 rw[Zdg hj,Zdg (show i<l.length by omega)];exact this
theorem Zp0 {l:List V} (ha:AscN (fun r=>gl r 0) l):(l.map kc).Nodup:=by
 refine pw_of (R:=(·≠·)) fun i j hi hj hij e=>?_
 have h1:nlt (gl (rd l i) 0) (gl (rd l j) 0)=true:=ha.lt hij hj
 have h2:=Zi0 h1
 rw[Znu,Zdg hi,Zdg hj,decide_eq_true e] at h2;cases h2
theorem ZcK {l:List V} {r:V} (h:r∈l):∃i,i<l.length∧rd l i=r:=by
 obtain⟨i,hi,e⟩:=List.getElem_of_mem h
 exact⟨i,hi,by rw[Zdg hi];exact e⟩
theorem fK_neg {l:List V} {k:List V} (h:¬0≤fK l k):∀r∈l,kc r≠ZbT k:=by
 intro r hr e
 obtain⟨i,hi,e2⟩:=ZcK hr
 unfold fK at h
 cases hf:Zt (fun i=>neq (gl (rd l i) 0) k) 0 l.length with
 | some j=>rw[hf] at h;exact h (Int.natCast_nonneg j)
 | none=>
  have h9:neq (gl (rd l i) 0) k=false:=firstI_none.1 hf i (Nat.zero_le _) (by omega)
  rw[e2,ZfI,decide_eq_true (show ZbT (gl r 0)=ZbT k from e)] at h9;cases h9
theorem fK_no {l:List V} {k:List V} (h:∀r∈l,kc r≠ZbT k):¬0≤fK l k:=by
 unfold fK
 cases hf:Zt (fun i=>neq (gl (rd l i) 0) k) 0 l.length with
 | some j=>
  obtain⟨-,h1,h2,-⟩:=Z8 hf
  have h2:neq (gl (rd l j) 0) k=true:=h2
  rw[ZfI] at h2
  exact absurd (of_decide_eq_true h2) (h _ (Zx (show j<l.length by omega)))
 | none=>decide
theorem fI_ex' {l:List V} {id:Int} (h:¬fI l id<0):∃y∈l,gi y 0=id:=by
 unfold fI at h
 cases hf:Zt (fun i=>decide (gi (rd l i) 0=id)) 0 l.length with
 | none=>rw[hf] at h;exact absurd (show(-1:Int)<0 by decide) h
 | some j=>
  obtain⟨-,h1,h2,-⟩:=Z8 hf
  exact⟨_,Zx (show j<l.length by omega),of_decide_eq_true h2⟩
theorem fI_mem {l:List V} {id:Int} (h:∃y∈l,gi y 0=id):¬fI l id<0:=by
 obtain⟨y,hy,e⟩:=h
 obtain⟨k,hk,e2⟩:=ZcK hy
 unfold fI
 cases hf:Zt (fun i=>decide (gi (rd l i) 0=id)) 0 l.length with
 | none=>
  have h9:decide (gi (rd l k) 0=id)=false:=firstI_none.1 hf k (Nat.zero_le _) (by omega)
  rw[e2,decide_eq_true e] at h9;cases h9
 | some j=>show ¬(j:Int)<0;omega
theorem VS.of {s:SD} (hw:Zfe s.v) (h:ZbO s.v=true):VS 0 s:=by
 obtain⟨a0,a1,a2,a3,a4,a5,a6,a7⟩:=sv_head h
 have g0:gi s.v 0=s.idx:=rfl
 have g1:gl s.v 1=s.rows:=rfl
 have g2:gl s.v 2=s.tombs:=rfl
 have g3:gi s.v 3=s.lost:=rfl
 have g4:gl s.v 4=s.sess:=rfl
 have row:=fun i (hi:i<s.rows.length)=>by
  have:=sv_row h (i:=i) hi
  unfold Zgu at this
  rw[g0,g1,g4] at this
  simp only[Bool.and_eq_true,Bool.or_eq_true,Bool.not_eq_true',decide_eq_false_iff_not,decide_eq_true_eq] at this
  exact this
 have ha:=Zno (ZoE h)
 have tomb:=fun i (hi:i<s.tombs.length)=>by
  have:=sv_tomb h (i:=i) hi
  unfold Zd0 at this
  rw[g0,g1,g2,g3] at this
  simp only[Bool.and_eq_true,Bool.or_eq_true,Bool.not_eq_true',decide_eq_false_iff_not,decide_eq_true_eq] at this
  exact this
 refine⟨a0,a1,a2,a3,a4,a5,a6,a7,fun r hr=>?_,fun r hr=>?_,ha,fun t ht=>?_,?_,?_,fun y hy=>?_,Zod h,fun l hl=>?_,Zoe h,fun r hr=>?_,fun t ht=>?_⟩
 ·obtain⟨i,hi,rfl⟩:=ZcK hr
  obtain⟨b1,b2,b3,b4,-⟩:=row i hi
  exact⟨b1,by omega,by omega,by omega⟩
 ·obtain⟨i,hi,rfl⟩:=ZcK hr
  obtain⟨-,-,-,-,b5,-⟩:=row i hi
  rcases b5 with b5 | b5
  ·exact .inl b5
  ·exact .inr (.inr (fI_ex' b5))
 ·obtain⟨i,hi,rfl⟩:=ZcK ht
  obtain⟨b1,b2,b3,b4,b5,b6,-⟩:=tomb i hi
  exact⟨b1,by omega,by omega,by omega⟩
 ·have step:∀i,i+1<s.tombs.length→gi (rd s.tombs i) 1≤gi (rd s.tombs (i+1)) 1:=fun i hi=>by
   obtain⟨-,-,-,-,-,-,b7⟩:=tomb (i+1) hi
   rw[Nat.add_sub_cancel] at b7;omega
  have all:∀j i,i≤j→j<s.tombs.length→gi (rd s.tombs i) 1≤gi (rd s.tombs j) 1:=by
   intro j
   induction j with
   | zero=>intro i hi _;obtain rfl:i=0:=by omega
           exact Int.le_refl _
   | succ j ih=>
    intro i hi hj
    rcases Nat.lt_or_ge i (j+1) with c | c
    ·exact Int.le_trans (ih i (by omega) (by omega)) (step j hj)
    ·obtain rfl:i=j+1:=by omega
     exact Int.le_refl _
  refine pw_of (f:=fun t=>gi t 1) fun i j hi hj hij=>?_
  have:=all j i (by omega) hj
  rw[Zdg hi,Zdg hj] at this;exact this
 ·rw[List.nodup_append]
  refine⟨Zp0 ha,?_,?_⟩
  ·refine pw_of (R:=(·≠·)) fun i j hi hj hij e=>?_
   obtain⟨-,-,b3,-⟩:=tomb j hj
   have b3:fK s.tombs (gl (rd s.tombs j) 0)=(j:Int):=b3
   unfold fK at b3
   cases hf:Zt (fun i=>neq (gl (rd s.tombs i) 0) (gl (rd s.tombs j) 0)) 0 s.tombs.length with
   | none=>rw[hf] at b3;have b3:(-1:Int)=(j:Int):=b3;omega
   | some m=>
    rw[hf] at b3
    have b3:(m:Int)=(j:Int):=b3
    obtain⟨-,-,-,h4⟩:=Z8 hf
    have h5:neq (gl (rd s.tombs i) 0) (gl (rd s.tombs j) 0)=false:=h4 i (Nat.zero_le _) (by omega)
    rw[Znu,Zdg hi,Zdg hj,decide_eq_true e] at h5;cases h5
  ·intro a ha' b hb e
   obtain⟨r,hr,rfl⟩:=List.mem_map.1 ha'
   obtain⟨t,ht,rfl⟩:=List.mem_map.1 hb
   obtain⟨i,hi,rfl⟩:=ZcK ht
   obtain⟨-,b2,-⟩:=tomb i hi
   have b2:¬0≤fK s.rows (gl (rd s.tombs i) 0):=b2
   exact fK_neg b2 r hr e
 ·obtain⟨i,hi,rfl⟩:=ZcK hy
  exact sessB_id (ZoF h hi)
 ·obtain⟨i,hi,rfl⟩:=ZcK hl
  exact Zpe h hi
 ·have:=hw.2.1.2 r hr
  exact⟨this.1,this.2.1⟩
 ·exact(hw.2.2.1.2 t ht).1
theorem VS.W {s:SD} (h:VS 0 s):Zfe s.v:=by
 have b0:=h.i0;have b1:=h.i1
 have hl:=h.l0;have hl1:=h.l1
 have n1:=h.nr;have n2:=h.nt;have n3:=h.ns;have n4:=h.nl
 have sI:∀y∈s.sess,I64 (gi y 0):=fun y hy=>by have:=h.sess y hy;exact⟨by omega,by omega⟩
 refine⟨⟨by show -9223372036854775808≤s.idx;omega,by show s.idx≤9223372036854775807;omega⟩,⟨by show s.rows.length≤_;omega,fun r hr=>?_⟩,⟨by show s.tombs.length≤_;omega,fun t ht=>?_⟩,⟨by show -9223372036854775808≤s.lost;omega,by show s.lost≤9223372036854775807;omega⟩,⟨by show s.sess.length≤_;omega,fun y hy=>⟨sI y hy,trivial⟩⟩,⟨by show s.lasts.length≤_;omega,fun l hl=>?_⟩⟩
 ·have h1:=h.wr r hr;have h2:=h.rows r hr
  refine⟨h1.1,h1.2,⟨by omega,by omega⟩,?_⟩
  rcases h.hold r hr with e | e | ⟨y,hy,e⟩
  ·rw[e];exact⟨by decide,by decide⟩
  ·rw[e];exact⟨by decide,by decide⟩
  ·rw[←e];exact sI y hy
 ·have h1:=h.wt t ht;have h2:=h.tombs t ht
  exact⟨h1,⟨by omega,by omega⟩⟩
 ·have:=h.lasts l hl
  exact⟨⟨by omega,by omega⟩,⟨by omega,by omega⟩,⟨by omega,by omega⟩,⟨by omega,by omega⟩⟩
theorem VS.B {s:SD} (h:VS 0 s):ZbO s.v=true:=by
 have hnd:=List.nodup_append.1 h.nd
 unfold ZbO
 simp only[Bool.and_eq_true,List.all_eq_true,List.mem_range]
 refine⟨decide_eq_true ⟨h.i0,h.i1,h.l0,h.l1,h.nr,h.nt,h.ns,h.nl⟩,fun i hi=>?_,fun i hi=>?_,fun i hi=>?_,fun i hi=>?_⟩
 ·have hi:i<s.rows.length:=hi
  obtain⟨b1,b2,b3,b4⟩:=h.rows _ (Zx hi)
  unfold Zgu
  simp only[Bool.and_eq_true,Bool.or_eq_true,Bool.not_eq_true',decide_eq_false_iff_not,decide_eq_true_eq]
  refine⟨b1,by show ¬(20:Int)<(((gl (rd s.rows i) 1).length:Nat):Int);omega,by show ¬gi (rd s.rows i) 2<1;omega,by show ¬s.idx<gi (rd s.rows i) 2;omega,?_,?_⟩
  ·rcases h.hold _ (Zx hi) with e | e | e
   ·exact .inl e
   ·exact .inl e
   ·exact .inr (fI_mem e)
  ·by_cases h0:i=0
   ·exact .inl h0
   ·refine .inr ?_
    have:=h.asc (i-1) (by omega)
    rw[show i-1+1=i by omega] at this;exact this
 ·have hi:i<s.tombs.length:=hi
  obtain⟨b1,b2,b3,b4⟩:=h.tombs _ (Zx hi)
  unfold Zd0
  simp only[Bool.and_eq_true,Bool.or_eq_true,Bool.not_eq_true',decide_eq_false_iff_not,decide_eq_true_eq]
  refine⟨b1,?_,?_,by show ¬gi (rd s.tombs i) 1<1;omega,by show ¬s.idx<gi (rd s.tombs i) 1;omega,by show ¬gi (rd s.tombs i) 1<s.lost;omega,?_⟩
  ·exact fK_no fun r hr e=>hnd.2.2 _ (List.mem_map_of_mem hr) _ (List.mem_map_of_mem (Zx hi)) e
  ·show fK s.tombs (gl (rd s.tombs i) 0)=(i:Int)
   refine Zej (ZiH hi (ZeH _) fun t ht=>?_)
   show neq (gl (rd s.tombs t) 0) (gl (rd s.tombs i) 0)=false
   rw[Znu]
   exact decide_eq_false (pw_at hnd.2.1 hi ht)
  ·by_cases h0:i=0
   ·exact .inl h0
   ·refine .inr ?_
    have:=pw_at (f:=fun t=>gi t 1) h.ord hi (show i-1<i by omega)
    show ¬gi (rd s.tombs i) 1<gi (rd s.tombs (i-1)) 1
    omega
 ·have hi:i<s.sess.length:=hi
  obtain⟨b1,b2⟩:=h.sess _ (Zx hi)
  unfold Zfu
  simp only[Bool.and_eq_true,Bool.or_eq_true,Bool.not_eq_true',decide_eq_false_iff_not,decide_eq_true_eq]
  refine⟨by show ¬gi (rd s.sess i) 0<1;omega,by show ¬s.idx<gi (rd s.sess i) 0;omega,?_⟩
  by_cases h0:i=0
  ·exact .inl h0
  ·refine .inr ?_
   have:=h.sasc (i-1) (by omega)
   rw[show i-1+1=i by omega] at this;exact this
 ·have hi:i<s.lasts.length:=hi
  unfold Zf2
  simp only[Bool.and_eq_true,Bool.or_eq_true,decide_eq_true_eq]
  refine⟨h.lasts _ (Zx hi),?_⟩
  by_cases h0:i=0
  ·exact .inl h0
  ·refine .inr ?_
   have:=h.lasc (i-1) (by omega)
   rw[show i-1+1=i by omega] at this;exact this
end Go.Eng.R
