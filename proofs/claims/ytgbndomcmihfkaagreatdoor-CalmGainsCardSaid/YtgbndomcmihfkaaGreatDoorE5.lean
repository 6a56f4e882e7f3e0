/- Part 5 of the proof. -/
import Derived.Test.YtgbndomcmihfkaaGreatDoorE4
import Derived.Deep.RegionWith
set_option linter.unusedSectionVars false
set_option linter.unusedVariables false
set_option linter.unusedSimpArgs false
set_option linter.unnecessarySimpa false
set_option maxRecDepth 100000
set_option maxHeartbeats 4000000
noncomputable section
namespace Kz
open Go Go.RowKit Go.Proofs
def Tu:KT:=[(191,81,[(0,(1::2::3::6::(rn 64 4 (rn 70 4 [])))),(1,(1::2::3::6::8::9::(rn 64 4 (rn 70 4 [])))),(2,(1::2::3::6::8::26::(rn 64 4 (rn 70 4 [])))),(3,[6,7]),(4,(1::3::6::8::10::(rn 64 4 (rn 70 4 [])))),(5,(1::3::6::8::11::12::(rn 64 4 (rn 70 4 [])))),(6,(1::3::6::8::11::12::13::(rn 64 4 (rn 70 4 [])))),(7,(1::3::6::8::11::12::13::(rn 64 4 (rn 70 4 [])))),(8,(1::3::6::8::(rn 11 4 (rn 64 4 (rn 70 4 []))))),(9,(1::3::6::8::11::12::13::15::(rn 64 4 (rn 70 4 [])))),(10,(1::3::6::8::11::12::13::15::16::(rn 64 4 (rn 70 4 [])))),(11,(1::6::8::11::12::15::17::(rn 64 4 (rn 70 4 [])))),(12,[1,6,8,9]),(13,[6,7])]),(196,4,[(0,[0]),(1,[0])]),(239,10,[(0,[0,1]),(1,[3])]),(240,25,[(0,(rn 0 4 (rn 10 5 (rn 17 7 [])))),(1,[5])]),(241,16,[(0,[0,1,5,6]),(1,[5,6,10]),(2,[5,6,7]),(3,[6,15]),(4,[]),(5,[6])]),(267,6,[(0,[2,3]),(1,[4])]),(277,19,[(0,[0,1,2,4]),(1,[0,1,2,4,12]),(2,[0,1,2,4]),(3,[0,1,2,4,18])])]
def ZG:ar:=bO Pz Tu [(147,gi),(190,A9),(193,uO),(199,Az),(205,Jo),(238,Ks)] [] []
theorem Up:aO ZG:=af ae ⟨gy,Dx,xr,By,KO,RQ,trivial⟩ trivial trivial
def MG (p1:Pos)(p2:Z')(p3:Pos)(p4:(BitVec 64))(p5:(BitVec 64))(p6:Int)(p7:Int)(x:(Int)):St:=St.mk (.yield 0::.ptr 8 0::.ptr 9 0::.any::.int .i64 x::(an 14 [])) (Hp.mk [(pc p1 []),[.int .i8 0,.int .i8 0,.int .u8 0,.int .u8 0,.bool false],[.ints .i64 2 p2],(pc p3 []),[.u64 p4],[.u64 p5],[.func 239 [] [.ptr 4 0]],[.bool false],[.int .i64 p6],[.int .i64 p7]] [] [eF.mk 0 none 241 (an 5 (.ptr 6 0::.ptr 7 0::(an 3 (.func 277 [] [.ptr 8 0,.ptr 9 0]::(an 5 []))))) [11] (sr Pz 241 3) (sF Pz 241 3)] 0 0 0)
def P2 (p1:Pos)(p2:Z')(p3:Pos)(p4:(BitVec 64))(p5:(BitVec 64))(p6:Int)(p7:Int):(Int) ⊕ (Int×Bool)→Out
 |(.inl (y))=>.ret (St.mk (AV.yield 0::AV.ptr 8 0::AV.ptr 9 0::AV.any::AV.int .i64 y::(an 13 [AV.aU true])) (Hp.mk [(pc p1 []),[AV.int .i8 0,AV.int .i8 0,AV.int .u8 0,AV.int .u8 0,AV.bool false],[AV.ints .i64 2 p2],(pc p3 []),[AV.u64 p4],[AV.u64 p5],[AV.func 239 [] [AV.ptr 4 0]],[AV.aU false],[AV.int .i64 p6],[AV.int .i64 p7]] [] [eF.mk 2 (some Code.ret) 241 (an 5 (AV.ptr 6 0::AV.ptr 7 0::(an 3 (AV.func 277 [] [AV.ptr 8 0,AV.ptr 9 0]::(an 5 []))))) [11] (sr Pz 241 3) (sF Pz 241 3)] 0 0 0))
 |(.inr (y))=>.exit 0 (St.mk (AV.yield 0::AV.ptr 8 0::AV.ptr 9 0::AV.any::AV.int .i64 y.1::(an 7 (AV.bool y.2::(an 6 [])))) (Hp.mk [(pc p1 []),[AV.int .i8 0,AV.int .i8 0,AV.int .u8 0,AV.int .u8 0,AV.bool false],[AV.ints .i64 2 p2],(pc p3 []),[AV.u64 p4],[AV.u64 p5],[AV.func 239 [] [AV.ptr 4 0]],[AV.bool false],[AV.int .i64 p6],[AV.int .i64 p7]] [] [eF.mk 0 none 241 (an 5 (AV.ptr 6 0::AV.ptr 7 0::(an 3 (AV.func 277 [] [AV.ptr 8 0,AV.ptr 9 0]::(an 5 []))))) [11] (sr Pz 241 3) (sF Pz 241 3)] 0 0 0))
def Bc (p1:Pos)(p2:Z')(p3:Pos)(p4:(BitVec 64))(p5:(BitVec 64))(p6:Int)(p7:Int)(x:(Int)):aG (Int) ((Int) ⊕ (Int×Bool)):=(bif decide (x≤if p7>p6 then p7 else p6)then(bif !p4 >>> (BitVec.ofInt 64 x).toNat&&&1#64==0#64 then(aG.out (.inl x))else(aG.go (wr .i64 (x+1))))else(aG.out (.inr ((x,decide (x≤if p7>p6 then p7 else p6))))))
def M1 (p1:Pos)(p2:Z')(p3:Pos)(p4:(BitVec 64))(p5:(BitVec 64))(p6:Int)(p7:Int)(x:(Int)):Bool:=true
def eQ (p1:Pos)(p2:Z')(p3:Pos)(p4:(BitVec 64))(p5:(BitVec 64))(p6:Int)(p7:Int)(x:(Int)):Option ((Int) ⊕ (Int×Bool)):=cW (fun x=>bif M1 p1 p2 p3 p4 p5 p6 p7 x then Bc p1 p2 p3 p4 p5 p6 p7 x else .bad) many x
abbrev Q1 {α:Type}(k:Pos→Z'→Pos→(BitVec 64)→(BitVec 64)→Int→Int→(Int)→α)(s:St):α:=wP s 0 fun q0=>wP s 3 fun q3=>k q0 (tN (tH s 2 0)) q3 (tU (tH s 4 0)) (tU (tH s 5 0)) (tI (tH s 8 0)) (tI (tH s 9 0)) ((tI (tT s 4)))
theorem aca (p1:Pos)(p2:Z')(p3:Pos)(p4:(BitVec 64))(p5:(BitVec 64))(p6:Int)(p7:Int)(x:(Int))(r:(Int) ⊕ (Int×Bool))(h:eQ p1 p2 p3 p4 p5 p6 p7 x=some r):aC Pz (bc Pz 277 1) (MG p1 p2 p3 p4 p5 p6 p7 x) (P2 p1 p2 p3 p4 p5 p6 p7 r):=aC.Be (m:=12) (fn:=277) Up (Q1 fun _ _ _ _ _ _ _ x=>some x) (fun o=>match o with | .ret s=>some (.inl (tI (tT s 4))) | .exit 0 s=>some (.inr ((tI (tT s 4)),(tB (tT s 12))))|_=>none) (fun r=>by cases r<;>rfl) (fun _=>by kernel_rfl) (fun _=>by kernel_rfl) (fun _=>by kernel_rfl) (fun _=>by kernel_rfl) many x r h
def zn (b:Code)(s:St):Tr Out:=Q1 (fun p1 p2 p3 p4 p5 p6 p7 x=>Bg b (bc Pz 277 1) s (MG p1 p2 p3 p4 p5 p6 p7 x) (eQ p1 p2 p3 p4 p5 p6 p7 x) (P2 p1 p2 p3 p4 p5 p6 p7)) s
theorem zl:∀b,aT Pz b (zn b):=fun _ _ _ h=>fj (aca _ _ _ _ _ _ _ _) h
def ZM:ar:=bO Pz Tu [(147,gi),(190,A9),(193,uO),(199,Az),(205,Jo),(238,Ks)] [(277,1,zn)] []
theorem RH:aO ZM:=af ae ⟨gy,Dx,xr,By,KO,RQ,trivial⟩ ⟨zl,trivial⟩ trivial
def KP (p1:Pos)(p2:Z')(p3:Pos)(p4:(BitVec 64))(p5:(BitVec 64))(p6:Int)(p7:Int)(p8:Int)(p9:Int)(x:(Int)):St:=St.mk (.yield 1::.ptr 12 0::.ptr 13 0::.any::.int .i64 x::(an 14 [])) (Hp.mk [(pc p1 []),[.int .i8 0,.int .i8 0,.int .u8 0,.int .u8 0,.bool false],[.ints .i64 2 p2],(pc p3 []),[.u64 p4],[.u64 p5],[.func 239 [] [.ptr 4 0]],[.bool true],[.int .i64 p6],[.int .i64 p7],[.func 239 [] [.ptr 4 0]],[.bool false],[.int .i64 p8],[.int .i64 p9]] [] [eF.mk 3 none 241 (an 5 (.ptr 6 0::.ptr 7 0::(an 3 (.func 277 [] [.ptr 8 0,.ptr 9 0]::(an 5 []))))) [11] (sr Pz 241 3) (sF Pz 241 3),eF.mk 0 none 241 (an 5 (.ptr 10 0::.ptr 11 0::(an 3 (.func 277 [] [.ptr 12 0,.ptr 13 0]::(an 5 []))))) [11] (sr Pz 241 3) (sF Pz 241 3)] 0 0 0)
def Ql (p1:Pos)(p2:Z')(p3:Pos)(p4:(BitVec 64))(p5:(BitVec 64))(p6:Int)(p7:Int)(p8:Int)(p9:Int):(Int) ⊕ (Int×Bool)→Out
 |(.inl (y))=>.ret (St.mk (AV.yield 1::AV.ptr 12 0::AV.ptr 13 0::AV.any::AV.int .i64 y::(an 13 [AV.aU true])) (Hp.mk [(pc p1 []),[AV.int .i8 0,AV.int .i8 0,AV.int .u8 0,AV.int .u8 0,AV.bool false],[AV.ints .i64 2 p2],(pc p3 []),[AV.u64 p4],[AV.u64 p5],[AV.func 239 [] [AV.ptr 4 0]],[AV.bool true],[AV.int .i64 p6],[AV.int .i64 p7],[AV.func 239 [] [AV.ptr 4 0]],[AV.aU false],[AV.int .i64 p8],[AV.int .i64 p9]] [] [eF.mk 3 none 241 (an 5 (AV.ptr 6 0::AV.ptr 7 0::(an 3 (AV.func 277 [] [AV.ptr 8 0,AV.ptr 9 0]::(an 5 []))))) [11] (sr Pz 241 3) (sF Pz 241 3),eF.mk 2 (some Code.ret) 241 (an 5 (AV.ptr 10 0::AV.ptr 11 0::(an 3 (AV.func 277 [] [AV.ptr 12 0,AV.ptr 13 0]::(an 5 []))))) [11] (sr Pz 241 3) (sF Pz 241 3)] 0 0 0))
 |(.inr (y))=>.exit 0 (St.mk (AV.yield 1::AV.ptr 12 0::AV.ptr 13 0::AV.any::AV.int .i64 y.1::(an 7 (AV.bool y.2::(an 6 [])))) (Hp.mk [(pc p1 []),[AV.int .i8 0,AV.int .i8 0,AV.int .u8 0,AV.int .u8 0,AV.bool false],[AV.ints .i64 2 p2],(pc p3 []),[AV.u64 p4],[AV.u64 p5],[AV.func 239 [] [AV.ptr 4 0]],[AV.bool true],[AV.int .i64 p6],[AV.int .i64 p7],[AV.func 239 [] [AV.ptr 4 0]],[AV.bool false],[AV.int .i64 p8],[AV.int .i64 p9]] [] [eF.mk 3 none 241 (an 5 (AV.ptr 6 0::AV.ptr 7 0::(an 3 (AV.func 277 [] [AV.ptr 8 0,AV.ptr 9 0]::(an 5 []))))) [11] (sr Pz 241 3) (sF Pz 241 3),eF.mk 0 none 241 (an 5 (AV.ptr 10 0::AV.ptr 11 0::(an 3 (AV.func 277 [] [AV.ptr 12 0,AV.ptr 13 0]::(an 5 []))))) [11] (sr Pz 241 3) (sF Pz 241 3)] 0 0 0))
def y7 (p1:Pos)(p2:Z')(p3:Pos)(p4:(BitVec 64))(p5:(BitVec 64))(p6:Int)(p7:Int)(p8:Int)(p9:Int)(x:(Int)):aG (Int) ((Int) ⊕ (Int×Bool)):=(bif decide (x≤if p9>p8 then p9 else p8)then(bif !p4 >>> (BitVec.ofInt 64 x).toNat&&&1#64==0#64 then(aG.out (.inl x))else(aG.go (wr .i64 (x+1))))else(aG.out (.inr ((x,decide (x≤if p9>p8 then p9 else p8))))))
def NU (p1:Pos)(p2:Z')(p3:Pos)(p4:(BitVec 64))(p5:(BitVec 64))(p6:Int)(p7:Int)(p8:Int)(p9:Int)(x:(Int)):Bool:=true
def eR (p1:Pos)(p2:Z')(p3:Pos)(p4:(BitVec 64))(p5:(BitVec 64))(p6:Int)(p7:Int)(p8:Int)(p9:Int)(x:(Int)):Option ((Int) ⊕ (Int×Bool)):=cW (fun x=>bif NU p1 p2 p3 p4 p5 p6 p7 p8 p9 x then y7 p1 p2 p3 p4 p5 p6 p7 p8 p9 x else .bad) many x
abbrev OM {α:Type}(k:Pos→Z'→Pos→(BitVec 64)→(BitVec 64)→Int→Int→Int→Int→(Int)→α)(s:St):α:=wP s 0 fun q0=>wP s 3 fun q3=>k q0 (tN (tH s 2 0)) q3 (tU (tH s 4 0)) (tU (tH s 5 0)) (tI (tH s 8 0)) (tI (tH s 9 0)) (tI (tH s 12 0)) (tI (tH s 13 0)) ((tI (tT s 4)))
theorem Y5 (p1:Pos)(p2:Z')(p3:Pos)(p4:(BitVec 64))(p5:(BitVec 64))(p6:Int)(p7:Int)(p8:Int)(p9:Int)(x:(Int))(r:(Int) ⊕ (Int×Bool))(h:eR p1 p2 p3 p4 p5 p6 p7 p8 p9 x=some r):aC Pz (bc Pz 277 1) (KP p1 p2 p3 p4 p5 p6 p7 p8 p9 x) (Ql p1 p2 p3 p4 p5 p6 p7 p8 p9 r):=aC.Be (m:=12) (fn:=277) RH (OM fun _ _ _ _ _ _ _ _ _ x=>some x) (fun o=>match o with | .ret s=>some (.inl (tI (tT s 4))) | .exit 0 s=>some (.inr ((tI (tT s 4)),(tB (tT s 12))))|_=>none) (fun r=>by cases r<;>rfl) (fun _=>by kernel_rfl) (fun _=>by kernel_rfl) (fun _=>by kernel_rfl) (fun _=>by kernel_rfl) many x r h
def DP (b:Code)(s:St):Tr Out:=OM (fun p1 p2 p3 p4 p5 p6 p7 p8 p9 x=>Bg b (bc Pz 277 1) s (KP p1 p2 p3 p4 p5 p6 p7 p8 p9 x) (eR p1 p2 p3 p4 p5 p6 p7 p8 p9 x) (Ql p1 p2 p3 p4 p5 p6 p7 p8 p9)) s
theorem Ha:∀b,aT Pz b (DP b):=fun _ _ _ h=>fj (Y5 _ _ _ _ _ _ _ _ _ _) h
abbrev cs191_1 (s:St):Bool:=Kz.shp [0,1,2,4] s==[50,228,244,3,10,3,7,4,7,3,7,3,7,3,3,5,3,3,3,3,2,1,7,10,3,7,4,7,3,7,3,7,3,3,1,4,1,4,1,1239,1,2,1,3,1,3,241]
abbrev cs191_2 (s:St):Bool:=Kz.shp [0,1,2,4] s==[51,292,308,3,10,3,7,4,7,3,7,3,7,3,3,5,3,3,3,3,2,1,7,10,3,7,4,7,3,7,3,7,3,3,1,4,1,4,1,1239,1,2,1,3,1,3,1,1239,1,2,1,3,1,3,241,241]
def Z5:ar:=bO Pz Tu [(147,gi),(190,A9),(193,uO),(199,Az),(205,Jo),(238,Ks)] [(277,1,fun b s=>(bif cs191_1 s then zn b s else(bif cs191_2 s then DP b s else .fail)))] []
theorem Uw:aO Z5:=af ae ⟨gy,Dx,xr,By,KO,RQ,trivial⟩ ⟨(kz (c:=cs191_1) zl (kz (c:=cs191_2) Ha uM)),trivial⟩ trivial
def P1 (p1:Pos)(p2:Z')(p3:Pos)(p4:(BitVec 64))(p5:(BitVec 64))(p6:Int)(p7:Int)(p8:Int)(p9:Int)(p10:Int)(p11:Int)(x:(Int)):St:=St.mk (.yield 2::.ptr 16 0::.ptr 17 0::.any::.int .i64 x::(an 14 [])) (Hp.mk [(pc p1 []),[.int .i8 0,.int .i8 0,.int .u8 0,.int .u8 0,.bool false],[.ints .i64 2 p2],(pc p3 []),[.u64 p4],[.u64 p5],[.func 239 [] [.ptr 4 0]],[.bool true],[.int .i64 p6],[.int .i64 p7],[.func 239 [] [.ptr 4 0]],[.bool true],[.int .i64 p8],[.int .i64 p9],[.func 240 [] [.ptr 0 0,.ptr 5 0,.ptr 3 0]],[.bool false],[.int .i64 p10],[.int .i64 p11]] [] [eF.mk 3 none 241 (an 5 (.ptr 6 0::.ptr 7 0::(an 3 (.func 277 [] [.ptr 8 0,.ptr 9 0]::(an 5 []))))) [11] (sr Pz 241 3) (sF Pz 241 3),eF.mk 3 none 241 (an 5 (.ptr 10 0::.ptr 11 0::(an 3 (.func 277 [] [.ptr 12 0,.ptr 13 0]::(an 5 []))))) [11] (sr Pz 241 3) (sF Pz 241 3),eF.mk 0 none 241 (an 5 (.ptr 14 0::.ptr 15 0::(an 3 (.func 277 [] [.ptr 16 0,.ptr 17 0]::(an 5 []))))) [11] (sr Pz 241 3) (sF Pz 241 3)] 0 0 0)
def NX (p1:Pos)(p2:Z')(p3:Pos)(p4:(BitVec 64))(p5:(BitVec 64))(p6:Int)(p7:Int)(p8:Int)(p9:Int)(p10:Int)(p11:Int):(Int) ⊕ (Int×Bool)→Out
 |(.inl (y))=>.ret (St.mk (AV.yield 2::AV.ptr 16 0::AV.ptr 17 0::AV.any::AV.int .i64 y::(an 13 [AV.aU true])) (Hp.mk [(pc p1 []),[AV.int .i8 0,AV.int .i8 0,AV.int .u8 0,AV.int .u8 0,AV.bool false],[AV.ints .i64 2 p2],(pc p3 []),[AV.u64 p4],[AV.u64 p5],[AV.func 239 [] [AV.ptr 4 0]],[AV.bool true],[AV.int .i64 p6],[AV.int .i64 p7],[AV.func 239 [] [AV.ptr 4 0]],[AV.bool true],[AV.int .i64 p8],[AV.int .i64 p9],[AV.func 240 [] [AV.ptr 0 0,AV.ptr 5 0,AV.ptr 3 0]],[AV.bool false],[AV.int .i64 p10],[AV.int .i64 p11]] [] [eF.mk 3 none 241 (an 5 (AV.ptr 6 0::AV.ptr 7 0::(an 3 (AV.func 277 [] [AV.ptr 8 0,AV.ptr 9 0]::(an 5 []))))) [11] (sr Pz 241 3) (sF Pz 241 3),eF.mk 3 none 241 (an 5 (AV.ptr 10 0::AV.ptr 11 0::(an 3 (AV.func 277 [] [AV.ptr 12 0,AV.ptr 13 0]::(an 5 []))))) [11] (sr Pz 241 3) (sF Pz 241 3),eF.mk 2 (some Code.ret) 241 (an 5 (AV.ptr 14 0::AV.ptr 15 0::(an 3 (AV.func 277 [] [AV.ptr 16 0,AV.ptr 17 0]::(an 5 []))))) [11] (sr Pz 241 3) (sF Pz 241 3)] 0 0 0))
 |(.inr (y))=>.exit 0 (St.mk (AV.yield 2::AV.ptr 16 0::AV.ptr 17 0::AV.any::AV.int .i64 y.1::(an 7 (AV.bool y.2::(an 6 [])))) (Hp.mk [(pc p1 []),[AV.int .i8 0,AV.int .i8 0,AV.int .u8 0,AV.int .u8 0,AV.bool false],[AV.ints .i64 2 p2],(pc p3 []),[AV.u64 p4],[AV.u64 p5],[AV.func 239 [] [AV.ptr 4 0]],[AV.bool true],[AV.int .i64 p6],[AV.int .i64 p7],[AV.func 239 [] [AV.ptr 4 0]],[AV.bool true],[AV.int .i64 p8],[AV.int .i64 p9],[AV.func 240 [] [AV.ptr 0 0,AV.ptr 5 0,AV.ptr 3 0]],[AV.bool false],[AV.int .i64 p10],[AV.int .i64 p11]] [] [eF.mk 3 none 241 (an 5 (AV.ptr 6 0::AV.ptr 7 0::(an 3 (AV.func 277 [] [AV.ptr 8 0,AV.ptr 9 0]::(an 5 []))))) [11] (sr Pz 241 3) (sF Pz 241 3),eF.mk 3 none 241 (an 5 (AV.ptr 10 0::AV.ptr 11 0::(an 3 (AV.func 277 [] [AV.ptr 12 0,AV.ptr 13 0]::(an 5 []))))) [11] (sr Pz 241 3) (sF Pz 241 3),eF.mk 0 none 241 (an 5 (AV.ptr 14 0::AV.ptr 15 0::(an 3 (AV.func 277 [] [AV.ptr 16 0,AV.ptr 17 0]::(an 5 []))))) [11] (sr Pz 241 3) (sF Pz 241 3)] 0 0 0))
def tE (p1:Pos)(p2:Z')(p3:Pos)(p4:(BitVec 64))(p5:(BitVec 64))(p6:Int)(p7:Int)(p8:Int)(p9:Int)(p10:Int)(p11:Int)(x:(Int)):aG (Int) ((Int) ⊕ (Int×Bool)):=(bif decide (x≤if p11>p10 then p11 else p10)then(bif p1.variant==3 then(bif fB x&&&p5 != 0#64 then(aG.go (wr .i64 (x+1)))else(bif !!Fs p3 x (wr .u8 (1-p1.aa))then(aG.out (.inl x))else(aG.go (wr .i64 (x+1)))))else(bif !!Fs p3 x (wr .u8 (1-p1.aa))then(aG.out (.inl x))else(aG.go (wr .i64 (x+1)))))else(aG.out (.inr ((x,decide (x≤if p11>p10 then p11 else p10))))))
def pR (p1:Pos)(p2:Z')(p3:Pos)(p4:(BitVec 64))(p5:(BitVec 64))(p6:Int)(p7:Int)(p8:Int)(p9:Int)(p10:Int)(p11:Int)(x:(Int)):Bool:=(bif decide (x≤if p11>p10 then p11 else p10)then(bif p1.variant==3 then(qv x&&(bif fB x&&&p5 != 0#64 then true else(yp p3 x (wr .u8 (1-p1.aa))&&true)))else(yp p3 x (wr .u8 (1-p1.aa))&&true))else true)
def eU (p1:Pos)(p2:Z')(p3:Pos)(p4:(BitVec 64))(p5:(BitVec 64))(p6:Int)(p7:Int)(p8:Int)(p9:Int)(p10:Int)(p11:Int)(x:(Int)):Option ((Int) ⊕ (Int×Bool)):=cW (fun x=>bif pR p1 p2 p3 p4 p5 p6 p7 p8 p9 p10 p11 x then tE p1 p2 p3 p4 p5 p6 p7 p8 p9 p10 p11 x else .bad) many x
abbrev P0 {α:Type}(k:Pos→Z'→Pos→(BitVec 64)→(BitVec 64)→Int→Int→Int→Int→Int→Int→(Int)→α)(s:St):α:=wP s 0 fun q0=>wP s 3 fun q3=>k q0 (tN (tH s 2 0)) q3 (tU (tH s 4 0)) (tU (tH s 5 0)) (tI (tH s 8 0)) (tI (tH s 9 0)) (tI (tH s 12 0)) (tI (tH s 13 0)) (tI (tH s 16 0)) (tI (tH s 17 0)) ((tI (tT s 4)))
theorem aci (p1:Pos)(p2:Z')(p3:Pos)(p4:(BitVec 64))(p5:(BitVec 64))(p6:Int)(p7:Int)(p8:Int)(p9:Int)(p10:Int)(p11:Int)(x:(Int))(r:(Int) ⊕ (Int×Bool))(h:eU p1 p2 p3 p4 p5 p6 p7 p8 p9 p10 p11 x=some r):aC Pz (bc Pz 277 1) (P1 p1 p2 p3 p4 p5 p6 p7 p8 p9 p10 p11 x) (NX p1 p2 p3 p4 p5 p6 p7 p8 p9 p10 p11 r):=aC.Be (m:=12) (fn:=277) Uw (P0 fun _ _ _ _ _ _ _ _ _ _ _ x=>some x) (fun o=>match o with | .ret s=>some (.inl (tI (tT s 4))) | .exit 0 s=>some (.inr ((tI (tT s 4)),(tB (tT s 12))))|_=>none) (fun r=>by cases r<;>rfl) (fun _=>by kernel_rfl) (fun _=>by kernel_rfl) (fun _=>by kernel_rfl) (fun _=>by kernel_rfl) many x r h
def M8 (b:Code)(s:St):Tr Out:=P0 (fun p1 p2 p3 p4 p5 p6 p7 p8 p9 p10 p11 x=>Bg b (bc Pz 277 1) s (P1 p1 p2 p3 p4 p5 p6 p7 p8 p9 p10 p11 x) (eU p1 p2 p3 p4 p5 p6 p7 p8 p9 p10 p11 x) (NX p1 p2 p3 p4 p5 p6 p7 p8 p9 p10 p11)) s
theorem SB:∀b,aT Pz b (M8 b):=fun _ _ _ h=>fj (aci _ _ _ _ _ _ _ _ _ _ _ _) h
abbrev cs191_3 (s:St):Bool:=Kz.shp [0,1,2,4] s==[52,356,372,3,10,3,7,4,7,3,7,3,7,3,3,5,3,3,3,3,2,1,7,10,3,7,4,7,3,7,3,7,3,3,1,4,1,4,1,1239,1,2,1,3,1,3,1,1239,1,2,1,3,1,3,1,1240,1,2,1,3,1,3,241,241,241]
def aro:ar:=bO Pz Tu [(147,gi),(190,A9),(193,uO),(199,Az),(205,Jo),(238,Ks)] [(277,1,fun b s=>(bif cs191_1 s then zn b s else(bif cs191_2 s then DP b s else(bif cs191_3 s then M8 b s else .fail))))] []
theorem agO:aO aro:=af ae ⟨gy,Dx,xr,By,KO,RQ,trivial⟩ ⟨(kz (c:=cs191_1) zl (kz (c:=cs191_2) Ha (kz (c:=cs191_3) SB uM))),trivial⟩ trivial
def dJ (a:Pos)(b:Int)(c:Int):(Mv×Bool):=(bif !(cD a b c).2 then(⟨(0),0,0,0,(false)⟩,false)else(bif cQ ((eQ a (List.take 2 (List.drop (c.toNat*2) (li [6,5,2,3]))) (u2 a ((a.ab.set (scale 1 b).toNat 0).set (scale 1 (cD a b c).1).toNat 0)) (bm (u2 a ((a.ab.set (scale 1 b).toNat 0).set (scale 1 (cD a b c).1).toNat 0))) (aS a (wr .u8 (1-a.aa)) 6) b (wr .i64 (cC a.aa+(List.take 2 (List.drop (c.toNat*2) (li [6,5,2,3]))).getD 0 0)) (if wr .i64 (cC a.aa+(List.take 2 (List.drop (c.toNat*2) (li [6,5,2,3]))).getD 0 0)<b then wr .i64 (cC a.aa+(List.take 2 (List.drop (c.toNat*2) (li [6,5,2,3]))).getD 0 0)else b)).getD default)then(⟨(wr .i8 b),(wr .i8 (cD a b c).1),0,0,(true)⟩,false)else(bif cQ ((eR a (List.take 2 (List.drop (c.toNat*2) (li [6,5,2,3]))) (u2 a ((a.ab.set (scale 1 b).toNat 0).set (scale 1 (cD a b c).1).toNat 0)) (bm (u2 a ((a.ab.set (scale 1 b).toNat 0).set (scale 1 (cD a b c).1).toNat 0))) (aS a (wr .u8 (1-a.aa)) 6) b (wr .i64 (cC a.aa+(List.take 2 (List.drop (c.toNat*2) (li [6,5,2,3]))).getD 0 0)) (cD a b c).1 (wr .i64 (cC a.aa+(List.take 2 (List.drop (c.toNat*2) (li [6,5,2,3]))).getD 1 0)) (if wr .i64 (cC a.aa+(List.take 2 (List.drop (c.toNat*2) (li [6,5,2,3]))).getD 1 0)<(cD a b c).1 then wr .i64 (cC a.aa+(List.take 2 (List.drop (c.toNat*2) (li [6,5,2,3]))).getD 1 0)else(cD a b c).1)).getD default)then(⟨(wr .i8 b),(wr .i8 (cD a b c).1),0,0,(true)⟩,false)else(bif cQ ((eU a (List.take 2 (List.drop (c.toNat*2) (li [6,5,2,3]))) (u2 a ((a.ab.set (scale 1 b).toNat 0).set (scale 1 (cD a b c).1).toNat 0)) (bm (u2 a ((a.ab.set (scale 1 b).toNat 0).set (scale 1 (cD a b c).1).toNat 0))) (aS a (wr .u8 (1-a.aa)) 6) b (wr .i64 (cC a.aa+(List.take 2 (List.drop (c.toNat*2) (li [6,5,2,3]))).getD 0 0)) (cD a b c).1 (wr .i64 (cC a.aa+(List.take 2 (List.drop (c.toNat*2) (li [6,5,2,3]))).getD 1 0)) b (wr .i64 (cC a.aa+(List.take 2 (List.drop (c.toNat*2) (li [6,5,2,3]))).getD 0 0)) (if wr .i64 (cC a.aa+(List.take 2 (List.drop (c.toNat*2) (li [6,5,2,3]))).getD 0 0)<b then wr .i64 (cC a.aa+(List.take 2 (List.drop (c.toNat*2) (li [6,5,2,3]))).getD 0 0)else b)).getD default)then(⟨(wr .i8 b),(wr .i8 (cD a b c).1),0,0,(true)⟩,false)else(⟨(wr .i8 b),(wr .i8 (cD a b c).1),0,0,(true)⟩,true)))))
def pA (a:Pos)(b:Int)(c:Int):Bool:=(BX a b c&&(bif !(cD a b c).2 then true else(decide (0≤c)&&decide (c<Int.ofNat 2)&&(decide (0≤b)&&decide (b<Int.ofNat 64)&&(decide (0≤(cD a b c).1)&&decide ((cD a b c).1<Int.ofNat 64)&&(sj (u2 a ((a.ab.set (scale 1 b).toNat 0).set (scale 1 (cD a b c).1).toNat 0))&&(cF a (wr .u8 (1-a.aa)) 6&&((eQ a (List.take 2 (List.drop (c.toNat*2) (li [6,5,2,3]))) (u2 a ((a.ab.set (scale 1 b).toNat 0).set (scale 1 (cD a b c).1).toNat 0)) (bm (u2 a ((a.ab.set (scale 1 b).toNat 0).set (scale 1 (cD a b c).1).toNat 0))) (aS a (wr .u8 (1-a.aa)) 6) b (wr .i64 (cC a.aa+(List.take 2 (List.drop (c.toNat*2) (li [6,5,2,3]))).getD 0 0)) (if wr .i64 (cC a.aa+(List.take 2 (List.drop (c.toNat*2) (li [6,5,2,3]))).getD 0 0)<b then wr .i64 (cC a.aa+(List.take 2 (List.drop (c.toNat*2) (li [6,5,2,3]))).getD 0 0)else b)).isSome&&bif cQ ((eQ a (List.take 2 (List.drop (c.toNat*2) (li [6,5,2,3]))) (u2 a ((a.ab.set (scale 1 b).toNat 0).set (scale 1 (cD a b c).1).toNat 0)) (bm (u2 a ((a.ab.set (scale 1 b).toNat 0).set (scale 1 (cD a b c).1).toNat 0))) (aS a (wr .u8 (1-a.aa)) 6) b (wr .i64 (cC a.aa+(List.take 2 (List.drop (c.toNat*2) (li [6,5,2,3]))).getD 0 0)) (if wr .i64 (cC a.aa+(List.take 2 (List.drop (c.toNat*2) (li [6,5,2,3]))).getD 0 0)<b then wr .i64 (cC a.aa+(List.take 2 (List.drop (c.toNat*2) (li [6,5,2,3]))).getD 0 0)else b)).getD default)then true else((eR a (List.take 2 (List.drop (c.toNat*2) (li [6,5,2,3]))) (u2 a ((a.ab.set (scale 1 b).toNat 0).set (scale 1 (cD a b c).1).toNat 0)) (bm (u2 a ((a.ab.set (scale 1 b).toNat 0).set (scale 1 (cD a b c).1).toNat 0))) (aS a (wr .u8 (1-a.aa)) 6) b (wr .i64 (cC a.aa+(List.take 2 (List.drop (c.toNat*2) (li [6,5,2,3]))).getD 0 0)) (cD a b c).1 (wr .i64 (cC a.aa+(List.take 2 (List.drop (c.toNat*2) (li [6,5,2,3]))).getD 1 0)) (if wr .i64 (cC a.aa+(List.take 2 (List.drop (c.toNat*2) (li [6,5,2,3]))).getD 1 0)<(cD a b c).1 then wr .i64 (cC a.aa+(List.take 2 (List.drop (c.toNat*2) (li [6,5,2,3]))).getD 1 0)else(cD a b c).1)).isSome&&bif cQ ((eR a (List.take 2 (List.drop (c.toNat*2) (li [6,5,2,3]))) (u2 a ((a.ab.set (scale 1 b).toNat 0).set (scale 1 (cD a b c).1).toNat 0)) (bm (u2 a ((a.ab.set (scale 1 b).toNat 0).set (scale 1 (cD a b c).1).toNat 0))) (aS a (wr .u8 (1-a.aa)) 6) b (wr .i64 (cC a.aa+(List.take 2 (List.drop (c.toNat*2) (li [6,5,2,3]))).getD 0 0)) (cD a b c).1 (wr .i64 (cC a.aa+(List.take 2 (List.drop (c.toNat*2) (li [6,5,2,3]))).getD 1 0)) (if wr .i64 (cC a.aa+(List.take 2 (List.drop (c.toNat*2) (li [6,5,2,3]))).getD 1 0)<(cD a b c).1 then wr .i64 (cC a.aa+(List.take 2 (List.drop (c.toNat*2) (li [6,5,2,3]))).getD 1 0)else(cD a b c).1)).getD default)then true else((eU a (List.take 2 (List.drop (c.toNat*2) (li [6,5,2,3]))) (u2 a ((a.ab.set (scale 1 b).toNat 0).set (scale 1 (cD a b c).1).toNat 0)) (bm (u2 a ((a.ab.set (scale 1 b).toNat 0).set (scale 1 (cD a b c).1).toNat 0))) (aS a (wr .u8 (1-a.aa)) 6) b (wr .i64 (cC a.aa+(List.take 2 (List.drop (c.toNat*2) (li [6,5,2,3]))).getD 0 0)) (cD a b c).1 (wr .i64 (cC a.aa+(List.take 2 (List.drop (c.toNat*2) (li [6,5,2,3]))).getD 1 0)) b (wr .i64 (cC a.aa+(List.take 2 (List.drop (c.toNat*2) (li [6,5,2,3]))).getD 0 0)) (if wr .i64 (cC a.aa+(List.take 2 (List.drop (c.toNat*2) (li [6,5,2,3]))).getD 0 0)<b then wr .i64 (cC a.aa+(List.take 2 (List.drop (c.toNat*2) (li [6,5,2,3]))).getD 0 0)else b)).isSome&&bif cQ ((eU a (List.take 2 (List.drop (c.toNat*2) (li [6,5,2,3]))) (u2 a ((a.ab.set (scale 1 b).toNat 0).set (scale 1 (cD a b c).1).toNat 0)) (bm (u2 a ((a.ab.set (scale 1 b).toNat 0).set (scale 1 (cD a b c).1).toNat 0))) (aS a (wr .u8 (1-a.aa)) 6) b (wr .i64 (cC a.aa+(List.take 2 (List.drop (c.toNat*2) (li [6,5,2,3]))).getD 0 0)) (cD a b c).1 (wr .i64 (cC a.aa+(List.take 2 (List.drop (c.toNat*2) (li [6,5,2,3]))).getD 1 0)) b (wr .i64 (cC a.aa+(List.take 2 (List.drop (c.toNat*2) (li [6,5,2,3]))).getD 0 0)) (if wr .i64 (cC a.aa+(List.take 2 (List.drop (c.toNat*2) (li [6,5,2,3]))).getD 0 0)<b then wr .i64 (cC a.aa+(List.take 2 (List.drop (c.toNat*2) (li [6,5,2,3]))).getD 0 0)else b)).getD default)then true else true))))))))))
theorem anw (a:Pos)(b:Int)(c:Int)(h:pA a b c=true):PS Pz 191 [Pos.av a,.int .i64 b,.int .i64 c] ((d2 rJ dB).res (dJ a b c)):=pq14 agO h
def aiq:GT:=g3 aZ (dI .i64) (dI .i64) (fun a b c=>b7 (pA a b c) ((d2 rJ dB).res (dJ a b c)))
theorem aqZ:Sound Pz 191 aiq:=dc fun a b c=>aA (anw a b c)
def akD:KT:=[(132,53,[(0,(1::(rn 13 4 (rn 25 7 [])))),(1,(1::17::(rn 25 7 []))),(2,[2]),(3,(1::3::(rn 25 7 []))),(4,[1,3,32]),(5,[2]),(6,[1,3,4]),(7,[1,3,4,33,34,35]),(8,(1::3::4::(rn 33 4 []))),(9,[1,3,4,6,33,34,35]),(10,[1,3,4,7,8,33,34,35]),(11,[1,3,4,7,33,34,35,46]),(12,[1,3,4,33,34,35]),(13,[1,3,4,33,34,35]),(14,[2])])]
def asW:ar:=bO Pz akD [(145,j7),(115,ahw),(190,A9),(191,aiq)] [] []
theorem ag5:aO asW:=af ae ⟨lg,atf,Dx,aqZ,trivial⟩ trivial trivial
def fc (a:Pos):M':=(bif decide (a.aa>1)then([])else(bif !xF a.variant then([])else(bif decide (bg a a.aa 6<0)then([])else(bif wr .i64 ((bg a a.aa 6).tdiv 8) != wr .i64 ((cC a.aa).tdiv 8)then([])else(bif(dJ a (bg a a.aa 6) 1).2 then(bif(dJ a (bg a a.aa 6) 0).2 then([]++[(dJ a (bg a a.aa 6) 1).1]++[(dJ a (bg a a.aa 6) 0).1])else([]++[(dJ a (bg a a.aa 6) 1).1]))else(bif(dJ a (bg a a.aa 6) 0).2 then([]++[(dJ a (bg a a.aa 6) 0).1])else([])))))))
def C0 (a:Pos):Bool:=(bif decide (a.aa>1)then true else(Cj (a.variant)&&(bif !xF a.variant then true else(iz a (a.aa) 6&&(bif decide (bg a a.aa 6<0)then true else(bif wr .i64 ((bg a a.aa 6).tdiv 8) != wr .i64 ((cC a.aa).tdiv 8)then true else(pA a (bg a a.aa 6) 1&&(bif(dJ a (bg a a.aa 6) 1).2 then(0==0&&decide (1≤1073741824)&&(pA a (bg a a.aa 6) 0&&(bif(dJ a (bg a a.aa 6) 0).2 then(1==1&&decide (2≤1073741824)&&true)else true)))else(pA a (bg a a.aa 6) 0&&(bif(dJ a (bg a a.aa 6) 0).2 then(0==0&&decide (1≤1073741824)&&true)else true))))))))))
theorem ath (a:Pos)(h:C0 a=true):PS Pz 132 [Pos.av a] ((dL .mv).res (fc a)):=pq14 ag5 h
def ahS:GT:=g1 aZ (fun a=>b7 (C0 a) ((dL .mv).res (fc a)))
theorem aky:Sound Pz 132 ahS:=aH fun a=>aA (ath a)
def aqB:KT:=[(178,9,[(0,[0,2]),(1,[0,2,4]),(2,[2]),(3,[2])]),(226,22,[(0,[0]),(1,[0,1]),(2,[0])]),(192,6,[(0,[0]),(1,[2])])]
def akE:ar:=bO Pz aqB [] [] []
theorem afL:aO akE:=af ae trivial trivial trivial
def sV (a:Int):Bool:=(bif decide (a≥9)then(false)else(bif a==↑0 then(false)else(bif a==↑1 then(false)else(bif a==↑2 then(true)else(bif a==↑3 then(false)else(bif a==↑4 then(false)else(bif a==↑5 then(false)else(bif a==↑6 then(false)else(bif a==↑7 then(false)else(false))))))))))
def DH (a:Int):Bool:=(bif decide (a≥9)then true else(decide (0≤a)&&decide (a < ↑9)&&(bif a==↑0 then true else(bif a==↑1 then true else(bif a==↑2 then true else(bif a==↑3 then true else(bif a==↑4 then true else(bif a==↑5 then true else(bif a==↑6 then true else(bif a==↑7 then true else(a==↑8&&true)))))))))))
theorem amC (a:Int)(h:DH a=true):PS Pz 192 [.int .u8 a] (dB.res (sV a)):=pq14 afL h
def UU:GT:=g1 (dI .u8) (fun a=>b7 (DH a) (dB.res (sV a)))
theorem Z2:Sound Pz 192 UU:=aH fun a=>aA (amC a)
def YZ:KT:=[(133,58,[(0,[1,13,14,15,16]),(1,[1,17]),(2,[2]),(3,[1,3]),(4,[1,3,18]),(5,[1,3,18,19]),(6,[1,3,4,18]),(7,[1,3,5,18]),(8,[1,3,5,18,31]),(9,[1,3,5,6,18]),(10,[1,3,5,6,18,36]),(11,[1,3,5,6,18]),(12,[1,3,5,18,40,41,42]),(13,(1::3::5::18::(rn 40 4 []))),(14,[1,3,5,8,18,40,41,42]),(15,[1,3,5,18,40,41,42]),(16,[1,3,5,18,40,41,42]),(17,[1,3,18]),(18,[2])])]
def Zb:ar:=bO Pz YZ [(193,uO),(142,jm),(192,UU)] [] []
theorem Rz:aO Zb:=af ae ⟨xr,jv,Z2,trivial⟩ trivial trivial
def OP (p1:Int)(p2:Int)(p3:Z')(p4:Int)(p5:Pos)(p6:Nat)(x:(M'×Int)):St:=St.mk (.any::.ptr 0 0::.any::.list .mv x.1 (.own 1)::.any::.int .u8 p1::(an 12 (.int .i64 p2::(an 21 (.list (ET.i .i64) p3 .fresh::.int .i64 p4::.int .i64 x.2::(an 15 [])))))) (Hp.mk [(pc p5 [])] [p6,x.1.length] [] 0 0 0)
def PA (p1:Int)(p2:Int)(p3:Z')(p4:Int)(p5:Pos)(p6:Nat):(M'×Int×Bool)→Out:=fun y=>.exit 2 (St.mk (.any::.ptr 0 0::.any::.list .mv y.1 (.own 1)::.any::.int .u8 p1::(an 12 (.int .i64 p2::(an 21 (.list (ET.i .i64) p3 .fresh::.int .i64 p4::.int .i64 y.2.1::.bool y.2.2::(an 14 [])))))) (Hp.mk [(pc p5 [])] [p6,y.1.length] [] 0 0 0))
def TS (p1:Int)(p2:Int)(p3:Z')(p4:Int)(p5:Pos)(p6:Nat)(x:(M'×Int)):aG (M'×Int) ((M'×Int×Bool)):=(bif decide (x.2<p4)then(aG.go (x.1++[Mv.mk (wr .i8 (p3.getD x.2.toNat default)) (wr .i8 (p3.getD x.2.toNat default)) 0 p1 false],wr .i64 (x.2+1)))else(aG.out ((x.1,x.2,decide (x.2<p4)))))
def LX (p1:Int)(p2:Int)(p3:Z')(p4:Int)(p5:Pos)(p6:Nat)(x:(M'×Int)):Bool:=(bif decide (x.2<p4)then(decide (0≤x.2)&&decide (x.2<Int.ofNat p3.length)&&(x.1.length==x.1.length&&decide (x.1.length+1≤1073741824)&&true))else true)
def lh (p1:Int)(p2:Int)(p3:Z')(p4:Int)(p5:Pos)(p6:Nat)(x:(M'×Int)):Option ((M'×Int×Bool)):=cW (fun x=>bif LX p1 p2 p3 p4 p5 p6 x then TS p1 p2 p3 p4 p5 p6 x else .bad) many x
abbrev Lf {α:Type}(k:Int→Int→Z'→Int→Pos→Nat→(M'×Int)→α)(s:St):α:=wP s 0 fun q0=>k (tI (tT s 5)) (tI (tT s 18)) (tL (ET.i .i64) (tT s 40)) (tI (tT s 41)) q0 (tK s 0) ((tL (ET.mv) (tT s 3)),(tI (tT s 42)))
theorem acf (p1:Int)(p2:Int)(p3:Z')(p4:Int)(p5:Pos)(p6:Nat)(x:(M'×Int))(r:(M'×Int×Bool))(h:lh p1 p2 p3 p4 p5 p6 x=some r):aC Pz (bc Pz 133 13) (OP p1 p2 p3 p4 p5 p6 x) (PA p1 p2 p3 p4 p5 p6 r):=smq (m:=12) (fn:=133) Rz (Lf fun _ _ _ _ _ _ x=>some x) (fun o=>match o with | .exit 2 s=>some ((tL ET.mv (tT s 3)),(tI (tT s 42)),(tB (tT s 43)))|_=>none) many x r h
def Ef (b:Code)(s:St):Tr Out:=Lf (fun p1 p2 p3 p4 p5 p6 x=>jS b (bc Pz 133 13) s (OP p1 p2 p3 p4 p5 p6 x) (lh p1 p2 p3 p4 p5 p6 x) (PA p1 p2 p3 p4 p5 p6)) s
theorem H5:∀b,aT Pz b (Ef b):=fun _ _ _ h=>bF (acf _ _ _ _ _ _ _) h
def aa7:ar:=bO Pz YZ [(193,uO),(142,jm),(192,UU)] [(133,13,Ef)] []
theorem UX:aO aa7:=af ae ⟨xr,jv,Z2,trivial⟩ ⟨H5,trivial⟩ trivial
def K5 (p1:Pos)(p2:Nat)(x:(M'×Int)):St:=St.mk (.any::.ptr 0 0::.any::.list .mv x.1 (.own 1)::(an 14 (.int .i64 x.2::(an 39 [])))) (Hp.mk [(pc p1 [])] [p2,x.1.length] [] 0 0 0)
def MU (p1:Pos)(p2:Nat):(M'×Int×Bool)→Out:=fun y=>.exit 0 (St.mk (.any::.ptr 0 0::.any::.list .mv y.1 (.own 1)::(an 14 (.int .i64 y.2.1::.bool y.2.2::(an 38 [])))) (Hp.mk [(pc p1 [])] [p2,y.1.length] [] 0 0 0))
def UK (p1:Pos)(p2:Nat)(x:(M'×Int)):aG (M'×Int) ((M'×Int×Bool)):=(bif decide (x.2<5)then(bif p1.ah.getD (scale 6 p1.aa+scale 1 (wr .u8 (wr .i64 (x.2+1)))).toNat 0==0 then(aG.go (x.1,wr .i64 (x.2+1)))else(bif wr .u8 (wr .i64 (x.2+1))==1 then(aG.go (((lh (wr .u8 (wr .i64 (x.2+1))) x.2 (gw (~~~bm p1&&&72057594037927680#64)) (Int.ofNat (gw (~~~bm p1&&&72057594037927680#64)).length) p1 p2 (x.1,0)).getD default).1,wr .i64 (x.2+1)))else(aG.go (((lh (wr .u8 (wr .i64 (x.2+1))) x.2 (gw (~~~bm p1)) (Int.ofNat (gw (~~~bm p1)).length) p1 p2 (x.1,0)).getD default).1,wr .i64 (x.2+1)))))else(aG.out ((x.1,x.2,decide (x.2<5)))))
def NL (p1:Pos)(p2:Nat)(x:(M'×Int)):Bool:=(bif decide (x.2<5)then(decide (0≤p1.aa)&&decide (p1.aa<Int.ofNat 2)&&(decide (0≤wr .u8 (wr .i64 (x.2+1)))&&decide (wr .u8 (wr .i64 (x.2+1))<Int.ofNat 6)&&(bif p1.ah.getD (scale 6 p1.aa+scale 1 (wr .u8 (wr .i64 (x.2+1)))).toNat 0==0 then true else(sj p1&&(bif wr .u8 (wr .i64 (x.2+1))==1 then(oZ (~~~bm p1&&&72057594037927680#64)&&((lh (wr .u8 (wr .i64 (x.2+1))) x.2 (gw (~~~bm p1&&&72057594037927680#64)) (Int.ofNat (gw (~~~bm p1&&&72057594037927680#64)).length) p1 p2 (x.1,0)).isSome&&true))else(oZ (~~~bm p1)&&((lh (wr .u8 (wr .i64 (x.2+1))) x.2 (gw (~~~bm p1)) (Int.ofNat (gw (~~~bm p1)).length) p1 p2 (x.1,0)).isSome&&true)))))))else true)
def pq (p1:Pos)(p2:Nat)(x:(M'×Int)):Option ((M'×Int×Bool)):=cW (fun x=>bif NL p1 p2 x then UK p1 p2 x else .bad) many x
abbrev Qp {α:Type}(k:Pos→Nat→(M'×Int)→α)(s:St):α:=wP s 0 fun q0=>k q0 (tK s 0) ((tL (ET.mv) (tT s 3)),(tI (tT s 18)))
theorem abV (p1:Pos)(p2:Nat)(x:(M'×Int))(r:(M'×Int×Bool))(h:pq p1 p2 x=some r):aC Pz (bc Pz 133 5) (K5 p1 p2 x) (MU p1 p2 r):=smq (m:=12) (fn:=133) UX (Qp fun _ _ x=>some x) (fun o=>match o with | .exit 0 s=>some ((tL ET.mv (tT s 3)),(tI (tT s 18)),(tB (tT s 19)))|_=>none) many x r h
def N8 (b:Code)(s:St):Tr Out:=Qp (fun p1 p2 x=>jS b (bc Pz 133 5) s (K5 p1 p2 x) (pq p1 p2 x) (MU p1 p2)) s
theorem Ri:∀b,aT Pz b (N8 b):=fun _ _ _ h=>bF (abV _ _ _) h
def atD:ar:=bO Pz YZ [(193,uO),(142,jm),(192,UU)] [(133,13,Ef),(133,5,N8)] []
theorem afk:aO atD:=af ae ⟨xr,jv,Z2,trivial⟩ ⟨H5,Ri,trivial⟩ trivial
def nQ (a:Pos):M':=(bif decide (a.aa>1)then([])else(bif !sV a.variant then([])else(((pq a 0 ([],0)).getD default).1)))
def BU (a:Pos):Bool:=(bif decide (a.aa>1)then true else(DH (a.variant)&&(bif !sV a.variant then true else((pq a 0 ([],0)).isSome&&true))))
theorem art (a:Pos)(h:BU a=true):PS Pz 133 [Pos.av a] ((dL .mv).res (nQ a)):=pq14 afk h
def ahj:GT:=g1 aZ (fun a=>b7 (BU a) ((dL .mv).res (nQ a)))
theorem ams:Sound Pz 133 ahj:=aH fun a=>aA (art a)
def K66:KT:=[(66,11,[(0,[1]),(1,[2])]),(130,36,[(0,[0]),(1,[0,3]),(2,[0,3,9,10,11]),(3,(0::3::(rn 9 4 []))),(4,[0,3,5,9,10,11]),(5,[0,3,9,10,11]),(6,[0,3,9,10,11,20]),(7,[0,3,9,10,11]),(8,[0,3,9,10,11]),(9,[0,6]),(10,[6,25,26,27]),(11,[6,25,26,27,28]),(12,[6,8,25,26,27]),(13,[6,25,26,27]),(14,[6,25,26,27]),(15,[2])]),(188,27,[(0,[0,1]),(1,[0,1,6]),(2,[0,1]),(3,[0,1]),(4,[0,1,16]),(5,[0]),(6,[4])])]
def B66:ar:=bO Pz K66 [(131,Zv),(132,ahS),(133,ahj)] [] [(188,TC)]
theorem arZ:aO B66:=af ae ⟨afK,aky,ams,trivial⟩ trivial ⟨XI,trivial⟩
def bR (a:Pos):M':=([]++ep a++fc a++nQ a)
def wG (a:Pos):Bool:=(yv a&&(C0 a&&(BU a&&(!(decide (wr .i64 (0+Int.ofNat (ep a).length)<0))&&(!(decide (wr .i64 (wr .i64 (0+Int.ofNat (ep a).length)+Int.ofNat (fc a).length)<0))&&(!(decide (wr .i64 (wr .i64 (wr .i64 (0+Int.ofNat (ep a).length)+Int.ofNat (fc a).length)+Int.ofNat (nQ a).length)<0))&&(decide (0≤wr .i64 (wr .i64 (wr .i64 (0+Int.ofNat (ep a).length)+Int.ofNat (fc a).length)+Int.ofNat (nQ a).length))&&decide (wr .i64 (wr .i64 (wr .i64 (0+Int.ofNat (ep a).length)+Int.ofNat (fc a).length)+Int.ofNat (nQ a).length)≤Int.ofNat 1073741824)&&(0==0&&decide (0+(ep a).length≤1073741824)&&(([]++ep a).length==([]++ep a).length&&decide (([]++ep a).length+(fc a).length≤1073741824)&&(([]++ep a++fc a).length==([]++ep a++fc a).length&&decide (([]++ep a++fc a).length+(nQ a).length≤1073741824)&&true))))))))))
theorem P66 (a:Pos)(h:wG a=true):PS Pz 66 [Pos.av a] ((dL .mv).res (bR a)):=pq14 arZ h
def DO:GT:=g1 aZ (fun a=>b7 (wG a) ((dL .mv).res (bR a)))
theorem FQ:Sound Pz 66 DO:=aH fun a=>aA (P66 a)
def anX:KT:=[(195,51,[(0,(2::3::12::13::14::(rn 17 5 [42,43]))),(1,[2,3,22,42,43]),(2,[4]),(3,[2,3,27,28,29,42,43]),(4,(2::3::(rn 27 4 [42,43]))),(5,[2,3,6,27,28,29,42,43]),(6,[2,3,7,27,28,29,42,43]),(7,[2,3,27,28,29,42,43,44]),(8,[4]),(9,[2,3,27,28,29,42,43]),(10,[50]),(11,[4]),(12,[4])])]
def anE:ar:=bO Pz anX [(190,A9)] [] []
theorem ah7:aO anE:=af ae ⟨Dx,trivial⟩ trivial trivial
def ie (a:Pos)(b:Mv):Int:=(bif decide (a.aa>1)then(-1)else(bif !b.bZ then(-1)else(bif b.aD==b.to then(-1)else(bif decide (wr .i64 (wr .i64 b.aD-cC a.aa)<0)then(-1)else(bif decide (wr .i64 (wr .i64 b.aD-cC a.aa)>7)then(-1)else(bif decide (wr .i64 (wr .i64 b.to-cC a.aa)<0)then(-1)else(bif decide (wr .i64 (wr .i64 b.to-cC a.aa)>7)then(-1)else(bif decide (b.to>b.aD)then(0)else(1)))))))))
def ae3 (a:Pos)(b:Mv):Bool:=true
theorem asc (a:Pos)(b:Mv)(h:ae3 a b=true):PS Pz 195 [Pos.av a,Mv.av b] ((dI .i64).res (ie a b)):=pq14 ah7 h
def aea:GT:=g2 aZ rJ (fun a b=>.ret ((dI .i64).res (ie a b)))
theorem al4:Sound Pz 195 aea:=aP fun a b=>bH (asc a b rfl)
def ak3:KT:=[(137,29,[(0,[2,3]),(1,[2,7]),(2,[2,7,13]),(3,[4,5,6]),(4,[2,8]),(5,[4,5,6])]),(196,4,[(0,[0]),(1,[0])])]
def atW:ar:=bO Pz ak3 [(190,A9),(195,aea)] [] []
theorem aeH:aO atW:=af ae ⟨Dx,al4,trivial⟩ trivial trivial
def gS (a:Pos)(b:Mv):(Int×Int×Bool):=(bif decide (ie a (Mv.mk b.aD b.to b.bU b.bh b.bZ)<0)then(0,0,false)else((wr .i64 (cC a.aa+(if 2=2 then List.take 2 (List.drop ((ie a (Mv.mk b.aD b.to b.bU b.bh b.bZ)).toNat*2) (if 4=4 then if 2=4 then((List.replicate 2 0).set 0 2).set 1 3 else List.take 2 (if 2=4 then((List.replicate 2 0).set 0 6).set 1 5 else List.take 0 (List.replicate 4 0)++((List.replicate 2 0).set 0 6).set 1 5++List.drop 2 (List.replicate 4 0))++((List.replicate 2 0).set 0 2).set 1 3++List.drop 4 (if 2=4 then((List.replicate 2 0).set 0 6).set 1 5 else List.take 0 (List.replicate 4 0)++((List.replicate 2 0).set 0 6).set 1 5++List.drop 2 (List.replicate 4 0))else(List.take 0 (List.replicate 4 0)++if 2=4 then((List.replicate 2 0).set 0 2).set 1 3 else List.take 2 (if 2=4 then((List.replicate 2 0).set 0 6).set 1 5 else List.take 0 (List.replicate 4 0)++((List.replicate 2 0).set 0 6).set 1 5++List.drop 2 (List.replicate 4 0))++((List.replicate 2 0).set 0 2).set 1 3++List.drop 4 (if 2=4 then((List.replicate 2 0).set 0 6).set 1 5 else List.take 0 (List.replicate 4 0)++((List.replicate 2 0).set 0 6).set 1 5++List.drop 2 (List.replicate 4 0)))++List.drop 4 (List.replicate 4 0)))else List.take 0 (List.replicate 2 0)++List.take 2 (List.drop ((ie a (Mv.mk b.aD b.to b.bU b.bh b.bZ)).toNat*2) (if 4=4 then if 2=4 then((List.replicate 2 0).set 0 2).set 1 3 else List.take 2 (if 2=4 then((List.replicate 2 0).set 0 6).set 1 5 else List.take 0 (List.replicate 4 0)++((List.replicate 2 0).set 0 6).set 1 5++List.drop 2 (List.replicate 4 0))++((List.replicate 2 0).set 0 2).set 1 3++List.drop 4 (if 2=4 then((List.replicate 2 0).set 0 6).set 1 5 else List.take 0 (List.replicate 4 0)++((List.replicate 2 0).set 0 6).set 1 5++List.drop 2 (List.replicate 4 0))else(List.take 0 (List.replicate 4 0)++if 2=4 then((List.replicate 2 0).set 0 2).set 1 3 else List.take 2 (if 2=4 then((List.replicate 2 0).set 0 6).set 1 5 else List.take 0 (List.replicate 4 0)++((List.replicate 2 0).set 0 6).set 1 5++List.drop 2 (List.replicate 4 0))++((List.replicate 2 0).set 0 2).set 1 3++List.drop 4 (if 2=4 then((List.replicate 2 0).set 0 6).set 1 5 else List.take 0 (List.replicate 4 0)++((List.replicate 2 0).set 0 6).set 1 5++List.drop 2 (List.replicate 4 0)))++List.drop 4 (List.replicate 4 0)))++List.drop 2 (List.replicate 2 0)).getD 0 0)),(wr .i64 (cC a.aa+(if 2=2 then List.take 2 (List.drop ((ie a (Mv.mk b.aD b.to b.bU b.bh b.bZ)).toNat*2) (if 4=4 then if 2=4 then((List.replicate 2 0).set 0 2).set 1 3 else List.take 2 (if 2=4 then((List.replicate 2 0).set 0 6).set 1 5 else List.take 0 (List.replicate 4 0)++((List.replicate 2 0).set 0 6).set 1 5++List.drop 2 (List.replicate 4 0))++((List.replicate 2 0).set 0 2).set 1 3++List.drop 4 (if 2=4 then((List.replicate 2 0).set 0 6).set 1 5 else List.take 0 (List.replicate 4 0)++((List.replicate 2 0).set 0 6).set 1 5++List.drop 2 (List.replicate 4 0))else(List.take 0 (List.replicate 4 0)++if 2=4 then((List.replicate 2 0).set 0 2).set 1 3 else List.take 2 (if 2=4 then((List.replicate 2 0).set 0 6).set 1 5 else List.take 0 (List.replicate 4 0)++((List.replicate 2 0).set 0 6).set 1 5++List.drop 2 (List.replicate 4 0))++((List.replicate 2 0).set 0 2).set 1 3++List.drop 4 (if 2=4 then((List.replicate 2 0).set 0 6).set 1 5 else List.take 0 (List.replicate 4 0)++((List.replicate 2 0).set 0 6).set 1 5++List.drop 2 (List.replicate 4 0)))++List.drop 4 (List.replicate 4 0)))else List.take 0 (List.replicate 2 0)++List.take 2 (List.drop ((ie a (Mv.mk b.aD b.to b.bU b.bh b.bZ)).toNat*2) (if 4=4 then if 2=4 then((List.replicate 2 0).set 0 2).set 1 3 else List.take 2 (if 2=4 then((List.replicate 2 0).set 0 6).set 1 5 else List.take 0 (List.replicate 4 0)++((List.replicate 2 0).set 0 6).set 1 5++List.drop 2 (List.replicate 4 0))++((List.replicate 2 0).set 0 2).set 1 3++List.drop 4 (if 2=4 then((List.replicate 2 0).set 0 6).set 1 5 else List.take 0 (List.replicate 4 0)++((List.replicate 2 0).set 0 6).set 1 5++List.drop 2 (List.replicate 4 0))else(List.take 0 (List.replicate 4 0)++if 2=4 then((List.replicate 2 0).set 0 2).set 1 3 else List.take 2 (if 2=4 then((List.replicate 2 0).set 0 6).set 1 5 else List.take 0 (List.replicate 4 0)++((List.replicate 2 0).set 0 6).set 1 5++List.drop 2 (List.replicate 4 0))++((List.replicate 2 0).set 0 2).set 1 3++List.drop 4 (if 2=4 then((List.replicate 2 0).set 0 6).set 1 5 else List.take 0 (List.replicate 4 0)++((List.replicate 2 0).set 0 6).set 1 5++List.drop 2 (List.replicate 4 0)))++List.drop 4 (List.replicate 4 0)))++List.drop 2 (List.replicate 2 0)).getD 1 0)),true))
def xV (a:Pos)(b:Mv):Bool:=(bif decide (ie a (Mv.mk b.aD b.to b.bU b.bh b.bZ)<0)then true else(decide (0≤ie a (Mv.mk b.aD b.to b.bU b.bh b.bZ))&&decide (ie a (Mv.mk b.aD b.to b.bU b.bh b.bZ) < ↑2)&&true))
theorem akH (a:Pos)(b:Mv)(h:xV a b=true):PS Pz 137 [Pos.av a,Mv.av b] ((d3 (dI .i64) (dI .i64) dB).res (gS a b)):=pq14 aeH h
def sS:GT:=g2 aZ rJ (fun a b=>b7 (xV a b) ((d3 (dI .i64) (dI .i64) dB).res (gS a b)))
theorem u7:Sound Pz 137 sS:=aP fun a b=>aA (akH a b)
def aoC:KT:=[(197,15,[(0,[0,1,8,9,12,13]),(1,[4])])]
def ala:ar:=bO Pz aoC [] [] []
theorem aeX:aO ala:=af ae trivial trivial trivial
def sX (a:Int)(b:Int):Bool:=(bif decide (a≤1)then(bif decide (b≥1)then(decide (b≤5))else(false))else(false))
def ajF (a:Int)(b:Int):Bool:=true
theorem al8 (a:Int)(b:Int)(h:ajF a b=true):PS Pz 197 [.int .u8 a,.int .u8 b] (dB.res (sX a b)):=pq14 aeX h
def aae:GT:=g2 (dI .u8) (dI .u8) (fun a b=>.ret (dB.res (sX a b)))
theorem aeB:Sound Pz 197 aae:=aP fun a b=>bH (al8 a b rfl)
def amO:KT:=[(138,33,[(0,(1::2::3::6::(rn 13 7 []))),(1,[1,2,3,6,20]),(2,[6,7]),(3,[3,6]),(4,[6,7])])]
def alz:ar:=bO Pz amO [(197,aae)] [] []
theorem agT:aO alz:=af ae ⟨aeB,trivial⟩ trivial trivial
def rq (a:Pos)(b:Int)(c:Int):(Pos×Bool):=(bif !sX b c then(⟨(a.variant),(if 64=64 then a.ab else List.take 0 (List.replicate 64 0)++a.ab++List.drop 64 (List.replicate 64 0)),(a.ai),(if 12=12 then a.ah else List.take 0 (List.replicate 12 0)++a.ah++List.drop 12 (List.replicate 12 0)),(a.aa),(if 4=4 then a.ao else List.take 0 (List.replicate 4 0)++a.ao++List.drop 4 (List.replicate 4 0)),(a.az),(if 2=2 then a.au else List.take 0 (List.replicate 2 0)++a.au++List.drop 2 (List.replicate 2 0)),(a.half),(a.full)⟩,false)else(bif a.ah.getD (scale 6 b+scale 1 c).toNat 0==0 then(⟨(a.variant),(if 64=64 then a.ab else List.take 0 (List.replicate 64 0)++a.ab++List.drop 64 (List.replicate 64 0)),(a.ai),(if 12=12 then a.ah else List.take 0 (List.replicate 12 0)++a.ah++List.drop 12 (List.replicate 12 0)),(a.aa),(if 4=4 then a.ao else List.take 0 (List.replicate 4 0)++a.ao++List.drop 4 (List.replicate 4 0)),(a.az),(if 2=2 then a.au else List.take 0 (List.replicate 2 0)++a.au++List.drop 2 (List.replicate 2 0)),(a.half),(a.full)⟩,false)else(⟨(a.variant),(if 64=64 then a.ab else List.take 0 (List.replicate 64 0)++a.ab++List.drop 64 (List.replicate 64 0)),(a.ai),(if 12=12 then a.ah.set (scale 6 b+scale 1 c).toNat (wr .u8 (a.ah.getD (scale 6 b+scale 1 c).toNat 0-1))else List.take 0 (List.replicate 12 0)++a.ah.set (scale 6 b+scale 1 c).toNat (wr .u8 (a.ah.getD (scale 6 b+scale 1 c).toNat 0-1))++List.drop 12 (List.replicate 12 0)),(a.aa),(if 4=4 then a.ao else List.take 0 (List.replicate 4 0)++a.ao++List.drop 4 (List.replicate 4 0)),(a.az),(if 2=2 then a.au else List.take 0 (List.replicate 2 0)++a.au++List.drop 2 (List.replicate 2 0)),(a.half),(a.full)⟩,true)))
def DF (a:Pos)(b:Int)(c:Int):Bool:=(bif !sX b c then true else(decide (0≤b)&&decide (b < ↑2)&&(decide (0≤c)&&decide (c < ↑6)&&(bif a.ah.getD (scale 6 b+scale 1 c).toNat 0==0 then true else(decide (0≤b)&&decide (b < ↑2)&&(decide (0≤c)&&decide (c < ↑6)&&(decide (0≤b)&&decide (b < ↑2)&&(decide (0≤c)&&decide (c < ↑6)&&true))))))))
theorem ak8 (a:Pos)(b:Int)(c:Int)(h:DF a b c=true):PS Pz 138 [Pos.av a,.int .u8 b,.int .u8 c] ((d2 aZ dB).res (rq a b c)):=pq14 agT h
def sZ:GT:=g3 aZ (dI .u8) (dI .u8) (fun a b c=>b7 (DF a b c) ((d2 aZ dB).res (rq a b c)))
theorem vT:Sound Pz 138 sZ:=dc fun a b c=>aA (ak8 a b c)
def alp:KT:=[(141,30,[(0,(1::2::3::6::(rn 11 7 []))),(1,[1,2,3,6,18]),(2,[3,6]),(3,[6])])]
def aqY:ar:=bO Pz alp [(197,aae)] [] []
theorem ag6:aO aqY:=af ae ⟨aeB,trivial⟩ trivial trivial
def ic (a:Pos)(b:Int)(c:Int):Pos:=(bif sX b c then(bif decide (a.ah.getD (scale 6 b+scale 1 c).toNat 0<255)then⟨(a.variant),(if 64=64 then a.ab else List.take 0 (List.replicate 64 0)++a.ab++List.drop 64 (List.replicate 64 0)),(a.ai),(if 12=12 then a.ah.set (scale 6 b+scale 1 c).toNat (wr .u8 (a.ah.getD (scale 6 b+scale 1 c).toNat 0+1))else List.take 0 (List.replicate 12 0)++a.ah.set (scale 6 b+scale 1 c).toNat (wr .u8 (a.ah.getD (scale 6 b+scale 1 c).toNat 0+1))++List.drop 12 (List.replicate 12 0)),(a.aa),(if 4=4 then a.ao else List.take 0 (List.replicate 4 0)++a.ao++List.drop 4 (List.replicate 4 0)),(a.az),(if 2=2 then a.au else List.take 0 (List.replicate 2 0)++a.au++List.drop 2 (List.replicate 2 0)),(a.half),(a.full)⟩else⟨(a.variant),(if 64=64 then a.ab else List.take 0 (List.replicate 64 0)++a.ab++List.drop 64 (List.replicate 64 0)),(a.ai),(if 12=12 then a.ah else List.take 0 (List.replicate 12 0)++a.ah++List.drop 12 (List.replicate 12 0)),(a.aa),(if 4=4 then a.ao else List.take 0 (List.replicate 4 0)++a.ao++List.drop 4 (List.replicate 4 0)),(a.az),(if 2=2 then a.au else List.take 0 (List.replicate 2 0)++a.au++List.drop 2 (List.replicate 2 0)),(a.half),(a.full)⟩)else⟨(a.variant),(if 64=64 then a.ab else List.take 0 (List.replicate 64 0)++a.ab++List.drop 64 (List.replicate 64 0)),(a.ai),(if 12=12 then a.ah else List.take 0 (List.replicate 12 0)++a.ah++List.drop 12 (List.replicate 12 0)),(a.aa),(if 4=4 then a.ao else List.take 0 (List.replicate 4 0)++a.ao++List.drop 4 (List.replicate 4 0)),(a.az),(if 2=2 then a.au else List.take 0 (List.replicate 2 0)++a.au++List.drop 2 (List.replicate 2 0)),(a.half),(a.full)⟩)
def wu (a:Pos)(b:Int)(c:Int):Bool:=(bif sX b c then(decide (0≤b)&&decide (b < ↑2)&&(decide (0≤c)&&decide (c < ↑6)&&(bif decide (a.ah.getD (scale 6 b+scale 1 c).toNat 0<255)then(decide (0≤b)&&decide (b < ↑2)&&(decide (0≤c)&&decide (c < ↑6)&&(decide (0≤b)&&decide (b < ↑2)&&(decide (0≤c)&&decide (c < ↑6)&&true))))else true)))else true)
theorem aul (a:Pos)(b:Int)(c:Int)(h:wu a b c=true):PS Pz 141 [Pos.av a,.int .u8 b,.int .u8 c] (aZ.res (ic a b c)):=pq14 ag6 h
def sJ:GT:=g3 aZ (dI .u8) (dI .u8) (fun a b c=>b7 (wu a b c) (aZ.res (ic a b c)))
theorem wU:Sound Pz 141 sJ:=dc fun a b c=>aA (aul a b c)
def atM:KT:=[(143,32,[(0,[1,2,10,11]),(1,[1,2,12]),(2,[4]),(3,[1,2,5]),(4,[1,2,5,6]),(5,[1,2,5,6,19]),(6,[1,2,5,6]),(7,[1,2,5,6]),(8,[4])])]
def anU:ar:=bO Pz atM [(193,uO),(147,gi),(199,Az)] [] []
theorem ag8:aO anU:=af ae ⟨xr,gy,By,trivial⟩ trivial trivial
def qL (a:Pos)(b:Int):BitVec 64:=(bif decide (b<0)then(0#64)else(bif decide (b≥64)then(0#64)else(fB b&&&bm a &&& ~~~aS a 0 1 &&& ~~~aS a (wr .u8 (0+1)) 1|||1#64 <<< (BitVec.ofInt 64 b).toNat)))
def CR (a:Pos)(b:Int):Bool:=(bif decide (b<0)then true else(bif decide (b≥64)then true else(qv b&&(sj a&&(cF a 0 1&&(cF a (wr .u8 (0+1)) 1&&true))))))
theorem ar6 (a:Pos)(b:Int)(h:CR a b=true):PS Pz 143 [Pos.av a,.int .i64 b] (dU.res (qL a b)):=pq14 ag8 h
def sO:GT:=g2 aZ (dI .i64) (fun a b=>b7 (CR a b) (dU.res (qL a b)))
theorem vd:Sound Pz 143 sO:=aP fun a b=>aA (ar6 a b)
def aqE:KT:=[(148,8,[(0,[0]),(1,[0,4]),(2,[2]),(3,[2])])]
def asg:ar:=bO Pz aqE [] [] []
theorem agK:aO asg:=af ae trivial trivial trivial
def lU (a:Int):Int:=(bif decide (a≥10000)then(a)else(wr .i64 (a+1)))
def adI (a:Int):Bool:=true
theorem ann (a:Int)(h:adI a=true):PS Pz 148 [.int .i64 a] ((dI .i64).res (lU a)):=pq14 agK h
def sM:GT:=g1 (dI .i64) (fun a=>.ret ((dI .i64).res (lU a)))
theorem vn:Sound Pz 148 sM:=aH fun a=>bH (ann a rfl)
def Nl:KT:=[(31,48,[(0,[2,3,4]),(1,[2,3,4,13]),(2,[4,5]),(3,[4,6]),(4,[4,6,37,38]),(5,[4,6,37,38,39]),(6,[4,6,8,37,38]),(7,[4,6,37,38]),(8,[4,6,37,38]),(9,[4,5])]),(68,156,[(0,[0,2]),(1,[0,2,14]),(2,[0,2]),(3,[0,2]),(4,[0,2,48]),(5,[]),(6,[0,2,64]),(7,[0,2,3,4]),(8,[0,2,3,4]),(9,[]),(10,[0,2,119]),(11,[0,2]),(12,[])]),(69,188,[(0,(1::(rn 14 6 (rn 99 11 (rn 163 8 []))))),(1,(1::20::(rn 99 11 (rn 163 8 [])))),(2,(1::2::(rn 99 11 (rn 163 8 [])))),(3,(1::2::26::(rn 99 11 (rn 163 8 [])))),(4,[1,2,4]),(5,[1,4,47]),(6,[1,4]),(7,[]),(8,(1::2::80::(rn 99 11 (rn 163 8 [])))),(9,(1::2::6::(rn 99 11 (rn 163 8 [])))),(10,(1::2::6::110::(rn 163 8 []))),(11,(1::2::6::(rn 163 8 []))),(12,(1::2::(rn 163 8 []))),(13,(1::2::(rn 163 8 []))),(14,(1::2::(rn 163 8 []))),(15,[1,171]),(16,[])]),(70,41,[(0,[0,16]),(1,[0,28,29,30]),(2,[0,28,29,30,31]),(3,[0,3,28,29,30]),(4,[0,28,29,30]),(5,[0,28,29,30])]),(71,121,[(0,(0::18::54::55::(rn 70 16 (89::90::(rn 93 6 (rn 101 10 [])))))),(1,(0::54::55::(rn 70 16 (89::90::(rn 93 6 (rn 101 10 [])))))),(2,(0::2::54::55::(rn 70 16 (89::90::(rn 93 6 (rn 101 10 [])))))),(3,(0::2::31::54::55::(rn 70 16 (89::90::(rn 93 6 (rn 101 10 [])))))),(4,(0::2::54::55::(rn 70 16 (89::90::(rn 93 6 (rn 101 10 [])))))),(5,(0::2::3::54::55::(rn 70 16 (89::90::(rn 93 6 (rn 101 10 [])))))),(6,(0::2::3::46::47::54::55::(rn 70 16 (89::90::(rn 93 6 (rn 101 10 [])))))),(7,(0::2::3::46::47::48::54::55::(rn 70 16 (89::90::(rn 93 6 (rn 101 10 [])))))),(8,(0::(rn 2 4 (46::47::54::55::(rn 70 16 (89::90::(rn 93 6 (rn 101 10 [])))))))),(9,(0::(rn 2 4 (46::47::54::55::56::(rn 70 16 (89::90::(rn 93 6 (rn 101 10 [])))))))),(10,(0::2::3::4::6::46::47::54::55::(rn 70 16 (89::90::(rn 93 6 (rn 101 10 [])))))),(11,(0::2::3::4::6::7::46::47::54::55::(rn 70 16 (89::90::(rn 93 6 (rn 101 10 [])))))),(12,(0::2::3::4::46::47::54::55::(rn 70 16 (89::90::(rn 93 6 (rn 101 11 [])))))),(13,(0::2::3::46::47::54::55::(rn 70 16 (89::90::(rn 93 6 (rn 101 10 [])))))),(14,(0::2::3::46::47::54::55::(rn 70 16 (89::90::(rn 93 6 (rn 101 10 []))))))]),(72,112,[(0,(0::(rn 12 6 (rn 20 26 (rn 64 9 []))))),(1,(0::46::(rn 64 9 []))),(2,(0::2::(rn 64 9 []))),(3,[0,73]),(4,[0,3]),(5,[0,3,106]),(6,[])]),(73,42,[(0,(0::(rn 16 5 []))),(1,[0,21]),(2,[0]),(3,[0,31]),(4,[])]),(74,59,[(0,(0::(rn 26 8 (rn 36 10 [])))),(1,(0::2::(rn 26 8 (rn 36 10 [])))),(2,[0,2,46]),(3,[])]),(140,14,[(0,[0,1]),(1,[3])]),(144,26,[(0,[0]),(1,[0,8]),(2,[2]),(3,[2])])]
def afC:ar:=bO Pz Nl [(149,qF),(66,DO),(65,Gq),(67,J0),(147,gi),(135,jt),(137,sS),(138,sZ),(139,qo),(141,sJ),(142,jm),(143,sO),(145,j7),(146,qc),(148,sM)] [] []
theorem abl:aO afC:=af ae ⟨qS,FQ,IC,Kh,gy,jQ,u7,vT,rU,wU,jv,vd,lg,ry,vn,trivial⟩ trivial trivial
def W8 (p1:Pos)(p2:Mv)(p3:Pos)(p4:Pos)(p5:Mv)(p6:Int):List AV:=[AV.ptr 3 0]
def Wb (p1:Pos)(p2:Mv)(p3:Pos)(p4:Pos)(p5:Mv)(p6:Int):Hp:=Hp.mk [(pc p1 []),[AV.int .i8 p2.aD,AV.int .i8 p2.to,AV.int .u8 p2.bU,AV.int .u8 p2.bh,AV.bool p2.bZ],zpB,(pc p3 (pc p4 [AV.int .i8 p5.aD,AV.int .i8 p5.to,AV.int .u8 p5.bU,AV.int .u8 p5.bh,AV.bool p5.bZ,AV.int .i64 p6]))] [] [] 0 0 0
def OV (p1:Pos)(p2:Mv)(p3:Pos)(p4:Pos)(p5:Mv)(p6:Int)(y:(Pos)):bL := .ret (.tuple []) (Hp.mk [(pc p1 []),[.int .i8 p2.aD,.int .i8 p2.to,.int .u8 p2.bU,.int .u8 p2.bh,.bool p2.bZ],zpB,(pc y (pc p4 [.int .i8 p5.aD,.int .i8 p5.to,.int .u8 p5.bU,.int .u8 p5.bh,.bool p5.bZ,.int .i64 p6]))] [] [] 0 0 0)
def bT (p1:Pos)(p2:Mv)(p3:Pos)(p4:Pos)(p5:Mv)(p6:Int):(Pos):=(bif p5.bZ then(u2 p3 ((((p3.ab.set (scale 1 p5.aD).toNat 0).set (scale 1 p5.to).toNat 0).set (scale 1 (gS p4 p5).1).toNat (p4.ab.getD (scale 1 p5.aD).toNat 0)).set (scale 1 (gS p4 p5).2.1).toNat (p4.ab.getD (scale 1 p5.to).toNat 0)))else(bif p5.bh != 0 then(u2 (rq p3 p3.aa p5.bh).1 ((rq p3 p3.aa p5.bh).1.ab.set (scale 1 p5.to).toNat (lI (rq p3 p3.aa p5.bh).1.aa p5.bh)))else(bif decide (p6≥0)then(bif p5.bU != 0 then(u2 p3 ((((p3.ab.set (scale 1 p6).toNat 0).set (scale 1 p5.aD).toNat 0).set (scale 1 p5.to).toNat (p4.ab.getD (scale 1 p5.aD).toNat 0)).set (scale 1 p5.to).toNat (lI p3.aa p5.bU)))else(u2 p3 (((p3.ab.set (scale 1 p6).toNat 0).set (scale 1 p5.aD).toNat 0).set (scale 1 p5.to).toNat (p4.ab.getD (scale 1 p5.aD).toNat 0))))else(bif p5.bU != 0 then(u2 p3 (((p3.ab.set (scale 1 p5.aD).toNat 0).set (scale 1 p5.to).toNat (p4.ab.getD (scale 1 p5.aD).toNat 0)).set (scale 1 p5.to).toNat (lI p3.aa p5.bU)))else(u2 p3 ((p3.ab.set (scale 1 p5.aD).toNat 0).set (scale 1 p5.to).toNat (p4.ab.getD (scale 1 p5.aD).toNat 0)))))))
def qj (p1:Pos)(p2:Mv)(p3:Pos)(p4:Pos)(p5:Mv)(p6:Int):Bool:=(bif p5.bZ then(xV p4 p5&&(decide (0≤p5.aD)&&decide (p5.aD<Int.ofNat 64)&&(decide (0≤p5.to)&&decide (p5.to<Int.ofNat 64)&&(decide (0≤p5.aD)&&decide (p5.aD<Int.ofNat 64)&&(decide (0≤p5.to)&&decide (p5.to<Int.ofNat 64)&&(decide (0≤(gS p4 p5).1)&&decide ((gS p4 p5).1<Int.ofNat 64)&&(decide (0≤(gS p4 p5).2.1)&&decide ((gS p4 p5).2.1<Int.ofNat 64)&&true)))))))else(bif p5.bh != 0 then(DF p3 (p3.aa) (p5.bh)&&(decide (0≤p5.to)&&decide (p5.to<Int.ofNat 64)&&true))else(bif decide (p6≥0)then(decide (0≤p6)&&decide (p6<Int.ofNat 64)&&(decide (0≤p5.aD)&&decide (p5.aD<Int.ofNat 64)&&(decide (0≤p5.aD)&&decide (p5.aD<Int.ofNat 64)&&(decide (0≤p5.to)&&decide (p5.to<Int.ofNat 64)&&(bif p5.bU != 0 then(decide (0≤p5.to)&&decide (p5.to<Int.ofNat 64)&&true)else true)))))else(decide (0≤p5.aD)&&decide (p5.aD<Int.ofNat 64)&&(decide (0≤p5.aD)&&decide (p5.aD<Int.ofNat 64)&&(decide (0≤p5.to)&&decide (p5.to<Int.ofNat 64)&&(bif p5.bU != 0 then(decide (0≤p5.to)&&decide (p5.to<Int.ofNat 64)&&true)else true)))))))
abbrev abw {α:Type}(k:Pos→Mv→Pos→Pos→Mv→Int→α)(s:St):α:=wP s 0 fun q0=>wP s 3 fun q3=>wM s 1 fun q1=>k q0 q1 q3 (Kz.Pos.mk (tI (tH s 3 10)) (tN (tH s 3 11)) (tU (tH s 3 12)) (tN (tH s 3 13)) (tI (tH s 3 14)) (tN (tH s 3 15)) (tI (tH s 3 16)) (tN (tH s 3 17)) (tI (tH s 3 18)) (tI (tH s 3 19))) (Kz.Mv.mk (tI (tH s 3 20)) (tI (tH s 3 21)) (tI (tH s 3 22)) (tI (tH s 3 23)) (tB (tH s 3 24))) (tI (tH s 3 25))
theorem aaK (p1:Pos)(p2:Mv)(p3:Pos)(p4:Pos)(p5:Mv)(p6:Int)(h:qj p1 p2 p3 p4 p5 p6=true):dz Pz 68 (W8 p1 p2 p3 p4 p5 p6) (Wb p1 p2 p3 p4 p5 p6) (OV p1 p2 p3 p4 p5 p6 (bT p1 p2 p3 p4 p5 p6))∧∃fn,Pz.funcs[68]?=some fn∧fn.body.isSome=true:=kR (n:=14) (O:=OV p1 p2 p3 p4 p5 p6) abl (fun o=>match o with | .ret v h=>(let s:St:=⟨[v],h⟩;wP s 3 fun q3=>some q3)|_=>none) (fun _=>rfl) (by kernel_rfl) (by kernel_rfl) (by kernel_rfl) (by kernel_rfl) h
def iW (xs:List AV)(h:Hp):Tr bL:=abw (fun p1 p2 p3 p4 p5 p6=>fk xs h (W8 p1 p2 p3 p4 p5 p6) (Wb p1 p2 p3 p4 p5 p6) (qj p1 p2 p3 p4 p5 p6) (OV p1 p2 p3 p4 p5 p6) (bT p1 p2 p3 p4 p5 p6)) ⟨xs,h⟩
theorem gU:dF Pz 68 iW:=fun _ _ _ h=>vO (aaK _ _ _ _ _ _) h
def aic:ar:=bO Pz Nl [(149,qF),(66,DO),(65,Gq),(67,J0),(147,gi),(135,jt),(137,sS),(138,sZ),(139,qo),(141,sJ),(142,jm),(143,sO),(145,j7),(146,qc),(148,sM)] [] [(68,iW)]
theorem ab8:aO aic:=af ae ⟨qS,FQ,IC,Kh,gy,jQ,u7,vT,rU,wU,jv,vd,lg,ry,vn,trivial⟩ trivial ⟨gU,trivial⟩
def Xk (p1:Pos)(p2:Mv)(p3:Pos)(p4:Pos)(p5:Mv)(p6:Int):List AV:=[AV.ptr 3 0]
def Xo (p1:Pos)(p2:Mv)(p3:Pos)(p4:Pos)(p5:Mv)(p6:Int):Hp:=Hp.mk [(pc p1 []),[AV.int .i8 p2.aD,AV.int .i8 p2.to,AV.int .u8 p2.bU,AV.int .u8 p2.bh,AV.bool p2.bZ],zpB,(pc p3 (pc p4 [AV.int .i8 p5.aD,AV.int .i8 p5.to,AV.int .u8 p5.bU,AV.int .u8 p5.bh,AV.bool p5.bZ,AV.int .i64 p6]))] [] [] 0 0 0
def Pq (p1:Pos)(p2:Mv)(p3:Pos)(p4:Pos)(p5:Mv)(p6:Int)(y:(Pos)):bL := .ret (.tuple []) (Hp.mk [(pc p1 []),[.int .i8 p2.aD,.int .i8 p2.to,.int .u8 p2.bU,.int .u8 p2.bh,.bool p2.bZ],zpB,(pc y (pc p4 [.int .i8 p5.aD,.int .i8 p5.to,.int .u8 p5.bU,.int .u8 p5.bh,.bool p5.bZ,.int .i64 p6]))] [] [] 0 0 0)
def cy (p1:Pos)(p2:Mv)(p3:Pos)(p4:Pos)(p5:Mv)(p6:Int):(Pos):=(bif p3.variant != 2 then(p3)else(bif p5.bh != 0 then(p3)else(bif p5.bZ then(bif p4.ai >>> (BitVec.ofInt 64 (wr .i64 p5.to)).toNat&&&1#64==1#64 then(u4 p3 (p3.ai &&& ~~~(1#64 <<< (BitVec.ofInt 64 p5.to).toNat)|||1#64 <<< (BitVec.ofInt 64 (gS p4 p5).2.1).toNat))else(p3))else(bif decide (p6≥0)then(bif p4.ai >>> (BitVec.ofInt 64 p6).toNat&&&1#64==1#64 then(bif p4.ab.getD (scale 1 p6).toNat 0 != 0 then(bif p5.bU != 0 then(u4 (ic p3 p3.aa 1) ((ic p3 p3.aa 1).ai &&& ~~~(1#64 <<< (BitVec.ofInt 64 p6).toNat) &&& ~~~(1#64 <<< (BitVec.ofInt 64 p5.aD).toNat)|||1#64 <<< (BitVec.ofInt 64 p5.to).toNat))else(bif p4.ai >>> (BitVec.ofInt 64 (wr .i64 p5.aD)).toNat&&&1#64==1#64 then(u4 (ic p3 p3.aa 1) ((ic p3 p3.aa 1).ai &&& ~~~(1#64 <<< (BitVec.ofInt 64 p6).toNat) &&& ~~~(1#64 <<< (BitVec.ofInt 64 p5.aD).toNat)|||1#64 <<< (BitVec.ofInt 64 p5.to).toNat))else(u4 (ic p3 p3.aa 1) ((ic p3 p3.aa 1).ai &&& ~~~(1#64 <<< (BitVec.ofInt 64 p6).toNat) &&& ~~~(1#64 <<< (BitVec.ofInt 64 p5.aD).toNat)))))else(bif p5.bU != 0 then(u4 (ic p3 p3.aa (di (p4.ab.getD (scale 1 p6).toNat 0))) ((ic p3 p3.aa (di (p4.ab.getD (scale 1 p6).toNat 0))).ai &&& ~~~(1#64 <<< (BitVec.ofInt 64 p6).toNat) &&& ~~~(1#64 <<< (BitVec.ofInt 64 p5.aD).toNat)|||1#64 <<< (BitVec.ofInt 64 p5.to).toNat))else(bif p4.ai >>> (BitVec.ofInt 64 (wr .i64 p5.aD)).toNat&&&1#64==1#64 then(u4 (ic p3 p3.aa (di (p4.ab.getD (scale 1 p6).toNat 0))) ((ic p3 p3.aa (di (p4.ab.getD (scale 1 p6).toNat 0))).ai &&& ~~~(1#64 <<< (BitVec.ofInt 64 p6).toNat) &&& ~~~(1#64 <<< (BitVec.ofInt 64 p5.aD).toNat)|||1#64 <<< (BitVec.ofInt 64 p5.to).toNat))else(u4 (ic p3 p3.aa (di (p4.ab.getD (scale 1 p6).toNat 0))) ((ic p3 p3.aa (di (p4.ab.getD (scale 1 p6).toNat 0))).ai &&& ~~~(1#64 <<< (BitVec.ofInt 64 p6).toNat) &&& ~~~(1#64 <<< (BitVec.ofInt 64 p5.aD).toNat))))))else(bif p5.bU != 0 then(u4 (ic p3 p3.aa (di (p4.ab.getD (scale 1 p6).toNat 0))) ((ic p3 p3.aa (di (p4.ab.getD (scale 1 p6).toNat 0))).ai &&& ~~~(1#64 <<< (BitVec.ofInt 64 p6).toNat) &&& ~~~(1#64 <<< (BitVec.ofInt 64 p5.aD).toNat)|||1#64 <<< (BitVec.ofInt 64 p5.to).toNat))else(bif p4.ai >>> (BitVec.ofInt 64 (wr .i64 p5.aD)).toNat&&&1#64==1#64 then(u4 (ic p3 p3.aa (di (p4.ab.getD (scale 1 p6).toNat 0))) ((ic p3 p3.aa (di (p4.ab.getD (scale 1 p6).toNat 0))).ai &&& ~~~(1#64 <<< (BitVec.ofInt 64 p6).toNat) &&& ~~~(1#64 <<< (BitVec.ofInt 64 p5.aD).toNat)|||1#64 <<< (BitVec.ofInt 64 p5.to).toNat))else(u4 (ic p3 p3.aa (di (p4.ab.getD (scale 1 p6).toNat 0))) ((ic p3 p3.aa (di (p4.ab.getD (scale 1 p6).toNat 0))).ai &&& ~~~(1#64 <<< (BitVec.ofInt 64 p6).toNat) &&& ~~~(1#64 <<< (BitVec.ofInt 64 p5.aD).toNat))))))else(bif p5.bU != 0 then(u4 p3 (p3.ai &&& ~~~(1#64 <<< (BitVec.ofInt 64 p5.aD).toNat)|||1#64 <<< (BitVec.ofInt 64 p5.to).toNat))else(bif p4.ai >>> (BitVec.ofInt 64 (wr .i64 p5.aD)).toNat&&&1#64==1#64 then(u4 p3 (p3.ai &&& ~~~(1#64 <<< (BitVec.ofInt 64 p5.aD).toNat)|||1#64 <<< (BitVec.ofInt 64 p5.to).toNat))else(u4 p3 (p3.ai &&& ~~~(1#64 <<< (BitVec.ofInt 64 p5.aD).toNat)))))))))
def oX (p1:Pos)(p2:Mv)(p3:Pos)(p4:Pos)(p5:Mv)(p6:Int):Bool:=(bif p3.variant != 2 then true else(bif p5.bh != 0 then true else(bif p5.bZ then(xV p4 p5&&true)else(bif decide (p6≥0)then(decide (0≤p6)&&decide (p6<Int.ofNat 64)&&(bif p4.ai >>> (BitVec.ofInt 64 p6).toNat&&&1#64==1#64 then(decide (0≤p6)&&decide (p6<Int.ofNat 64)&&(bif p4.ab.getD (scale 1 p6).toNat 0 != 0 then(wu p3 (p3.aa) 1&&true)else(wu p3 (p3.aa) (di (p4.ab.getD (scale 1 p6).toNat 0))&&true)))else(wu p3 (p3.aa) (di (p4.ab.getD (scale 1 p6).toNat 0))&&true)))else true))))
abbrev Z4 {α:Type}(k:Pos→Mv→Pos→Pos→Mv→Int→α)(s:St):α:=wP s 0 fun q0=>wP s 3 fun q3=>wM s 1 fun q1=>k q0 q1 q3 (Kz.Pos.mk (tI (tH s 3 10)) (tN (tH s 3 11)) (tU (tH s 3 12)) (tN (tH s 3 13)) (tI (tH s 3 14)) (tN (tH s 3 15)) (tI (tH s 3 16)) (tN (tH s 3 17)) (tI (tH s 3 18)) (tI (tH s 3 19))) (Kz.Mv.mk (tI (tH s 3 20)) (tI (tH s 3 21)) (tI (tH s 3 22)) (tI (tH s 3 23)) (tB (tH s 3 24))) (tI (tH s 3 25))
theorem ZF (p1:Pos)(p2:Mv)(p3:Pos)(p4:Pos)(p5:Mv)(p6:Int)(h:oX p1 p2 p3 p4 p5 p6=true):dz Pz 69 (Xk p1 p2 p3 p4 p5 p6) (Xo p1 p2 p3 p4 p5 p6) (Pq p1 p2 p3 p4 p5 p6 (cy p1 p2 p3 p4 p5 p6))∧∃fn,Pz.funcs[69]?=some fn∧fn.body.isSome=true:=kR (n:=14) (O:=Pq p1 p2 p3 p4 p5 p6) ab8 (fun o=>match o with | .ret v h=>(let s:St:=⟨[v],h⟩;wP s 3 fun q3=>some q3)|_=>none) (fun _=>rfl) (by kernel_rfl) (by kernel_rfl) (by kernel_rfl) (by kernel_rfl) h
def jR (xs:List AV)(h:Hp):Tr bL:=Z4 (fun p1 p2 p3 p4 p5 p6=>fk xs h (Xk p1 p2 p3 p4 p5 p6) (Xo p1 p2 p3 p4 p5 p6) (oX p1 p2 p3 p4 p5 p6) (Pq p1 p2 p3 p4 p5 p6) (cy p1 p2 p3 p4 p5 p6)) ⟨xs,h⟩
theorem iM:dF Pz 69 jR:=fun _ _ _ h=>vO (ZF _ _ _ _ _ _) h
def ajg:ar:=bO Pz Nl [(149,qF),(66,DO),(65,Gq),(67,J0),(147,gi),(135,jt),(137,sS),(138,sZ),(139,qo),(141,sJ),(142,jm),(143,sO),(145,j7),(146,qc),(148,sM)] [] [(68,iW),(69,jR)]
theorem abQ:aO ajg:=af ae ⟨qS,FQ,IC,Kh,gy,jQ,u7,vT,rU,wU,jv,vd,lg,ry,vn,trivial⟩ trivial ⟨gU,iM,trivial⟩
def VY (p1:Z')(p2:Int)(p3:Pos)(p4:Mv)(p5:Pos)(p6:Mv)(p7:Int)(x:(Int×Pos)):St:=St.mk (.ptr 3 0::(an 27 (.list (ET.i .i64) p1 .fresh::.int .i64 p2::.int .i64 x.1::(an 10 [])))) (Hp.mk [(pc p3 []),[.int .i8 p4.aD,.int .i8 p4.to,.int .u8 p4.bU,.int .u8 p4.bh,.bool p4.bZ],zpB,(pc x.2 (pc p5 [.int .i8 p6.aD,.int .i8 p6.to,.int .u8 p6.bU,.int .u8 p6.bh,.bool p6.bZ,.int .i64 p7]))] [] [] 0 0 0)
def WB (p1:Z')(p2:Int)(p3:Pos)(p4:Mv)(p5:Pos)(p6:Mv)(p7:Int):(Int×Bool×Pos)→Out:=fun y=>.exit 0 (St.mk (.ptr 3 0::(an 27 (.list (ET.i .i64) p1 .fresh::.int .i64 p2::.int .i64 y.1::.bool y.2.1::(an 9 [])))) (Hp.mk [(pc p3 []),[.int .i8 p4.aD,.int .i8 p4.to,.int .u8 p4.bU,.int .u8 p4.bh,.bool p4.bZ],zpB,(pc y.2.2 (pc p5 [.int .i8 p6.aD,.int .i8 p6.to,.int .u8 p6.bU,.int .u8 p6.bh,.bool p6.bZ,.int .i64 p7]))] [] [] 0 0 0))
def Ob (p1:Z')(p2:Int)(p3:Pos)(p4:Mv)(p5:Pos)(p6:Mv)(p7:Int)(x:(Int×Pos)):aG (Int×Pos) ((Int×Bool×Pos)):=(bif decide (x.1<p2)then(aG.go (wr .i64 (x.1+1),u2 x.2 (x.2.ab.set (scale 1 (p1.getD x.1.toNat default)).toNat 0)))else(aG.out ((x.1,decide (x.1<p2),x.2))))
def G3 (p1:Z')(p2:Int)(p3:Pos)(p4:Mv)(p5:Pos)(p6:Mv)(p7:Int)(x:(Int×Pos)):Bool:=(bif decide (x.1<p2)then(decide (0≤x.1)&&decide (x.1<Int.ofNat p1.length)&&(decide (0≤p1.getD x.1.toNat default)&&decide (p1.getD x.1.toNat default<Int.ofNat 64)&&true))else true)
def rS (p1:Z')(p2:Int)(p3:Pos)(p4:Mv)(p5:Pos)(p6:Mv)(p7:Int)(x:(Int×Pos)):Option ((Int×Bool×Pos)):=cW (fun x=>bif G3 p1 p2 p3 p4 p5 p6 p7 x then Ob p1 p2 p3 p4 p5 p6 p7 x else .bad) many x
abbrev Vu {α:Type}(k:Z'→Int→Pos→Mv→Pos→Mv→Int→(Int×Pos)→α)(s:St):α:=wP s 0 fun q0=>wP s 3 fun q3=>wM s 1 fun q1=>k (tL (ET.i .i64) (tT s 28)) (tI (tT s 29)) q0 q1 (Kz.Pos.mk (tI (tH s 3 10)) (tN (tH s 3 11)) (tU (tH s 3 12)) (tN (tH s 3 13)) (tI (tH s 3 14)) (tN (tH s 3 15)) (tI (tH s 3 16)) (tN (tH s 3 17)) (tI (tH s 3 18)) (tI (tH s 3 19))) (Kz.Mv.mk (tI (tH s 3 20)) (tI (tH s 3 21)) (tI (tH s 3 22)) (tI (tH s 3 23)) (tB (tH s 3 24))) (tI (tH s 3 25)) ((tI (tT s 30)),q3)
theorem aeP (p1:Z')(p2:Int)(p3:Pos)(p4:Mv)(p5:Pos)(p6:Mv)(p7:Int)(x:(Int×Pos))(r:(Int×Bool×Pos))(h:rS p1 p2 p3 p4 p5 p6 p7 x=some r):aC Pz (bc Pz 70 2) (VY p1 p2 p3 p4 p5 p6 p7 x) (WB p1 p2 p3 p4 p5 p6 p7 r):=smq (m:=12) (fn:=70) abQ (Vu fun _ _ _ _ _ _ _ x=>some x) (fun o=>match o with | .exit 0 s=>wP s 3 fun q3=>some ((tI (tT s 30)),(tB (tT s 31)),q3)|_=>none) many x r h
def ql (b:Code)(s:St):Tr Out:=Vu (fun p1 p2 p3 p4 p5 p6 p7 x=>jS b (bc Pz 70 2) s (VY p1 p2 p3 p4 p5 p6 p7 x) (rS p1 p2 p3 p4 p5 p6 p7 x) (WB p1 p2 p3 p4 p5 p6 p7)) s
theorem mw:∀b,aT Pz b (ql b):=fun _ _ _ h=>bF (aeP _ _ _ _ _ _ _ _) h
def adl:ar:=bO Pz Nl [(149,qF),(66,DO),(65,Gq),(67,J0),(147,gi),(135,jt),(137,sS),(138,sZ),(139,qo),(141,sJ),(142,jm),(143,sO),(145,j7),(146,qc),(148,sM)] [(70,2,ql)] [(68,iW),(69,jR)]
theorem abq:aO adl:=af ae ⟨qS,FQ,IC,Kh,gy,jQ,u7,vT,rU,wU,jv,vd,lg,ry,vn,trivial⟩ ⟨mw,trivial⟩ ⟨gU,iM,trivial⟩
def WG (p1:Pos)(p2:Mv)(p3:Pos)(p4:Pos)(p5:Mv)(p6:Int):List AV:=[AV.ptr 3 0]
def VL (p1:Pos)(p2:Mv)(p3:Pos)(p4:Pos)(p5:Mv)(p6:Int):Hp:=Hp.mk [(pc p1 []),[AV.int .i8 p2.aD,AV.int .i8 p2.to,AV.int .u8 p2.bU,AV.int .u8 p2.bh,AV.bool p2.bZ],zpB,(pc p3 (pc p4 [AV.int .i8 p5.aD,AV.int .i8 p5.to,AV.int .u8 p5.bU,AV.int .u8 p5.bh,AV.bool p5.bZ,AV.int .i64 p6]))] [] [] 0 0 0
def L9 (p1:Pos)(p2:Mv)(p3:Pos)(p4:Pos)(p5:Mv)(p6:Int)(y:(Pos)):bL := .ret (.tuple []) (Hp.mk [(pc p1 []),[.int .i8 p2.aD,.int .i8 p2.to,.int .u8 p2.bU,.int .u8 p2.bh,.bool p2.bZ],zpB,(pc y (pc p4 [.int .i8 p5.aD,.int .i8 p5.to,.int .u8 p5.bU,.int .u8 p5.bh,.bool p5.bZ,.int .i64 p6]))] [] [] 0 0 0)
def cV (p1:Pos)(p2:Mv)(p3:Pos)(p4:Pos)(p5:Mv)(p6:Int):(Pos):=(bif p3.variant != 3 then(p3)else(bif decide (p6<0)then(p3)else(((rS (gw (qL p3 (wr .i64 p5.to))) (Int.ofNat (gw (qL p3 (wr .i64 p5.to))).length) p1 p2 p4 p5 p6 (0,p3)).getD default).2.2)))
def qA (p1:Pos)(p2:Mv)(p3:Pos)(p4:Pos)(p5:Mv)(p6:Int):Bool:=(bif p3.variant != 3 then true else(bif decide (p6<0)then true else(CR p3 (wr .i64 p5.to)&&(oZ (qL p3 (wr .i64 p5.to))&&((rS (gw (qL p3 (wr .i64 p5.to))) (Int.ofNat (gw (qL p3 (wr .i64 p5.to))).length) p1 p2 p4 p5 p6 (0,p3)).isSome&&true)))))
abbrev YN {α:Type}(k:Pos→Mv→Pos→Pos→Mv→Int→α)(s:St):α:=wP s 0 fun q0=>wP s 3 fun q3=>wM s 1 fun q1=>k q0 q1 q3 (Kz.Pos.mk (tI (tH s 3 10)) (tN (tH s 3 11)) (tU (tH s 3 12)) (tN (tH s 3 13)) (tI (tH s 3 14)) (tN (tH s 3 15)) (tI (tH s 3 16)) (tN (tH s 3 17)) (tI (tH s 3 18)) (tI (tH s 3 19))) (Kz.Mv.mk (tI (tH s 3 20)) (tI (tH s 3 21)) (tI (tH s 3 22)) (tI (tH s 3 23)) (tB (tH s 3 24))) (tI (tH s 3 25))
theorem YV (p1:Pos)(p2:Mv)(p3:Pos)(p4:Pos)(p5:Mv)(p6:Int)(h:qA p1 p2 p3 p4 p5 p6=true):dz Pz 70 (WG p1 p2 p3 p4 p5 p6) (VL p1 p2 p3 p4 p5 p6) (L9 p1 p2 p3 p4 p5 p6 (cV p1 p2 p3 p4 p5 p6))∧∃fn,Pz.funcs[70]?=some fn∧fn.body.isSome=true:=kR (n:=14) (O:=L9 p1 p2 p3 p4 p5 p6) abq (fun o=>match o with | .ret v h=>(let s:St:=⟨[v],h⟩;wP s 3 fun q3=>some q3)|_=>none) (fun _=>rfl) (by kernel_rfl) (by kernel_rfl) (by kernel_rfl) (by kernel_rfl) h
def mn (xs:List AV)(h:Hp):Tr bL:=YN (fun p1 p2 p3 p4 p5 p6=>fk xs h (WG p1 p2 p3 p4 p5 p6) (VL p1 p2 p3 p4 p5 p6) (qA p1 p2 p3 p4 p5 p6) (L9 p1 p2 p3 p4 p5 p6) (cV p1 p2 p3 p4 p5 p6)) ⟨xs,h⟩
theorem kH:dF Pz 70 mn:=fun _ _ _ h=>vO (YV _ _ _ _ _ _) h
def ajf:ar:=bO Pz Nl [(149,qF),(66,DO),(65,Gq),(67,J0),(147,gi),(135,jt),(137,sS),(138,sZ),(139,qo),(141,sJ),(142,jm),(143,sO),(145,j7),(146,qc),(148,sM)] [(70,2,ql)] [(68,iW),(69,jR),(70,mn)]
theorem aaX:aO ajf:=af ae ⟨qS,FQ,IC,Kh,gy,jQ,u7,vT,rU,wU,jv,vd,lg,ry,vn,trivial⟩ ⟨mw,trivial⟩ ⟨gU,iM,kH,trivial⟩
def Wh (p1:Int)(p2:Int)(p3:Z')(p4:Pos)(p5:Mv)(p6:Pos)(p7:Mv)(p8:Int)(x:(Int×Pos)):St:=St.mk (.ptr 3 0::.any::.int .u8 p1::.int .i64 p2::(an 42 (.agg [.ints .i8 2 p3]::.int .i64 x.1::(an 73 [])))) (Hp.mk [(pc p4 []),[.int .i8 p5.aD,.int .i8 p5.to,.int .u8 p5.bU,.int .u8 p5.bh,.bool p5.bZ],zpB,(pc x.2 (pc p6 [.int .i8 p7.aD,.int .i8 p7.to,.int .u8 p7.bU,.int .u8 p7.bh,.bool p7.bZ,.int .i64 p8]))] [] [] 0 0 0)
def WN (p1:Int)(p2:Int)(p3:Z')(p4:Pos)(p5:Mv)(p6:Pos)(p7:Mv)(p8:Int):(Int×Bool×Pos)→Out:=fun y=>.exit 2 (St.mk (.ptr 3 0::.any::.int .u8 p1::.int .i64 p2::(an 42 (.agg [.ints .i8 2 p3]::.int .i64 y.1::.bool y.2.1::(an 72 [])))) (Hp.mk [(pc p4 []),[.int .i8 p5.aD,.int .i8 p5.to,.int .u8 p5.bU,.int .u8 p5.bh,.bool p5.bZ],zpB,(pc y.2.2 (pc p6 [.int .i8 p7.aD,.int .i8 p7.to,.int .u8 p7.bU,.int .u8 p7.bh,.bool p7.bZ,.int .i64 p8]))] [] [] 0 0 0))
def A8 (p1:Int)(p2:Int)(p3:Z')(p4:Pos)(p5:Mv)(p6:Pos)(p7:Mv)(p8:Int)(x:(Int×Pos)):aG (Int×Pos) ((Int×Bool×Pos)):=(bif decide (x.1<2)then(bif decide (p3.getD x.1.toNat 0<0)then(aG.go (wr .i64 (x.1+1),x.2))else(bif decide (p3.getD x.1.toNat 0>7)then(aG.go (wr .i64 (x.1+1),x.2))else(bif p8==wr .i64 (wr .i64 (56*wr .i64 p1)+wr .i64 (p3.getD x.1.toNat 0))then(aG.go (wr .i64 (x.1+1),u32 x.2 (x.2.ao.set (scale 2 p1+scale 1 x.1).toNat (-1))))else(bif p7.bh==0 then(bif wr .i64 p7.aD==wr .i64 (wr .i64 (56*wr .i64 p1)+wr .i64 (p3.getD x.1.toNat 0))then(aG.go (wr .i64 (x.1+1),u32 x.2 (x.2.ao.set (scale 2 p1+scale 1 x.1).toNat (-1))))else(bif decide (p2<0)then(aG.go (wr .i64 (x.1+1),u32 x.2 (x.2.ao.set (scale 2 p1+scale 1 x.1).toNat (-1))))else(bif wr .i64 (p2.tdiv 8) != wr .i64 (7*wr .i64 p1)then(aG.go (wr .i64 (x.1+1),u32 x.2 (x.2.ao.set (scale 2 p1+scale 1 x.1).toNat (-1))))else(bif x.2.ab.getD (scale 1 (wr .i64 (wr .i64 (56*wr .i64 p1)+wr .i64 (p3.getD x.1.toNat 0)))).toNat 0 != lI p1 4 then(aG.go (wr .i64 (x.1+1),u32 x.2 (x.2.ao.set (scale 2 p1+scale 1 x.1).toNat (-1))))else(aG.go (wr .i64 (x.1+1),x.2))))))else(bif decide (p2<0)then(aG.go (wr .i64 (x.1+1),u32 x.2 (x.2.ao.set (scale 2 p1+scale 1 x.1).toNat (-1))))else(bif wr .i64 (p2.tdiv 8) != wr .i64 (7*wr .i64 p1)then(aG.go (wr .i64 (x.1+1),u32 x.2 (x.2.ao.set (scale 2 p1+scale 1 x.1).toNat (-1))))else(bif x.2.ab.getD (scale 1 (wr .i64 (wr .i64 (56*wr .i64 p1)+wr .i64 (p3.getD x.1.toNat 0)))).toNat 0 != lI p1 4 then(aG.go (wr .i64 (x.1+1),u32 x.2 (x.2.ao.set (scale 2 p1+scale 1 x.1).toNat (-1))))else(aG.go (wr .i64 (x.1+1),x.2)))))))))else(aG.out ((x.1,decide (x.1<2),x.2))))
def Aq (p1:Int)(p2:Int)(p3:Z')(p4:Pos)(p5:Mv)(p6:Pos)(p7:Mv)(p8:Int)(x:(Int×Pos)):Bool:=(bif decide (x.1<2)then(decide (0≤x.1)&&decide (x.1<Int.ofNat 2)&&(bif decide (p3.getD x.1.toNat 0<0)then true else(bif decide (p3.getD x.1.toNat 0>7)then true else(bif p8==wr .i64 (wr .i64 (56*wr .i64 p1)+wr .i64 (p3.getD x.1.toNat 0))then(decide (0≤p1)&&decide (p1<Int.ofNat 2)&&(decide (0≤x.1)&&decide (x.1<Int.ofNat 2)&&true))else(bif p7.bh==0 then(bif wr .i64 p7.aD==wr .i64 (wr .i64 (56*wr .i64 p1)+wr .i64 (p3.getD x.1.toNat 0))then(decide (0≤p1)&&decide (p1<Int.ofNat 2)&&(decide (0≤x.1)&&decide (x.1<Int.ofNat 2)&&true))else(bif decide (p2<0)then(decide (0≤p1)&&decide (p1<Int.ofNat 2)&&(decide (0≤x.1)&&decide (x.1<Int.ofNat 2)&&true))else(bif wr .i64 (p2.tdiv 8) != wr .i64 (7*wr .i64 p1)then(decide (0≤p1)&&decide (p1<Int.ofNat 2)&&(decide (0≤x.1)&&decide (x.1<Int.ofNat 2)&&true))else(decide (0≤wr .i64 (wr .i64 (56*wr .i64 p1)+wr .i64 (p3.getD x.1.toNat 0)))&&decide (wr .i64 (wr .i64 (56*wr .i64 p1)+wr .i64 (p3.getD x.1.toNat 0))<Int.ofNat 64)&&(bif x.2.ab.getD (scale 1 (wr .i64 (wr .i64 (56*wr .i64 p1)+wr .i64 (p3.getD x.1.toNat 0)))).toNat 0 != lI p1 4 then(decide (0≤p1)&&decide (p1<Int.ofNat 2)&&(decide (0≤x.1)&&decide (x.1<Int.ofNat 2)&&true))else true)))))else(bif decide (p2<0)then(decide (0≤p1)&&decide (p1<Int.ofNat 2)&&(decide (0≤x.1)&&decide (x.1<Int.ofNat 2)&&true))else(bif wr .i64 (p2.tdiv 8) != wr .i64 (7*wr .i64 p1)then(decide (0≤p1)&&decide (p1<Int.ofNat 2)&&(decide (0≤x.1)&&decide (x.1<Int.ofNat 2)&&true))else(decide (0≤wr .i64 (wr .i64 (56*wr .i64 p1)+wr .i64 (p3.getD x.1.toNat 0)))&&decide (wr .i64 (wr .i64 (56*wr .i64 p1)+wr .i64 (p3.getD x.1.toNat 0))<Int.ofNat 64)&&(bif x.2.ab.getD (scale 1 (wr .i64 (wr .i64 (56*wr .i64 p1)+wr .i64 (p3.getD x.1.toNat 0)))).toNat 0 != lI p1 4 then(decide (0≤p1)&&decide (p1<Int.ofNat 2)&&(decide (0≤x.1)&&decide (x.1<Int.ofNat 2)&&true))else true)))))))))else true)
def lW (p1:Int)(p2:Int)(p3:Z')(p4:Pos)(p5:Mv)(p6:Pos)(p7:Mv)(p8:Int)(x:(Int×Pos)):Option ((Int×Bool×Pos)):=cW (fun x=>bif Aq p1 p2 p3 p4 p5 p6 p7 p8 x then A8 p1 p2 p3 p4 p5 p6 p7 p8 x else .bad) many x
abbrev WT {α:Type}(k:Int→Int→Z'→Pos→Mv→Pos→Mv→Int→(Int×Pos)→α)(s:St):α:=wP s 0 fun q0=>wP s 3 fun q3=>wM s 1 fun q1=>k (tI (tT s 2)) (tI (tT s 3)) (tN (tX (tA (tT s 46)) 0)) q0 q1 (Kz.Pos.mk (tI (tH s 3 10)) (tN (tH s 3 11)) (tU (tH s 3 12)) (tN (tH s 3 13)) (tI (tH s 3 14)) (tN (tH s 3 15)) (tI (tH s 3 16)) (tN (tH s 3 17)) (tI (tH s 3 18)) (tI (tH s 3 19))) (Kz.Mv.mk (tI (tH s 3 20)) (tI (tH s 3 21)) (tI (tH s 3 22)) (tI (tH s 3 23)) (tB (tH s 3 24))) (tI (tH s 3 25)) ((tI (tT s 47)),q3)
theorem ahP (p1:Int)(p2:Int)(p3:Z')(p4:Pos)(p5:Mv)(p6:Pos)(p7:Mv)(p8:Int)(x:(Int×Pos))(r:(Int×Bool×Pos))(h:lW p1 p2 p3 p4 p5 p6 p7 p8 x=some r):aC Pz (bc Pz 71 7) (Wh p1 p2 p3 p4 p5 p6 p7 p8 x) (WN p1 p2 p3 p4 p5 p6 p7 p8 r):=smq (m:=12) (fn:=71) aaX (WT fun _ _ _ _ _ _ _ _ x=>some x) (fun o=>match o with | .exit 2 s=>wP s 3 fun q3=>some ((tI (tT s 47)),(tB (tT s 48)),q3)|_=>none) many x r h
def ue (b:Code)(s:St):Tr Out:=WT (fun p1 p2 p3 p4 p5 p6 p7 p8 x=>jS b (bc Pz 71 7) s (Wh p1 p2 p3 p4 p5 p6 p7 p8 x) (lW p1 p2 p3 p4 p5 p6 p7 p8 x) (WN p1 p2 p3 p4 p5 p6 p7 p8)) s
theorem rE:∀b,aT Pz b (ue b):=fun _ _ _ h=>bF (ahP _ _ _ _ _ _ _ _ _) h
def agi:ar:=bO Pz Nl [(149,qF),(66,DO),(65,Gq),(67,J0),(147,gi),(135,jt),(137,sS),(138,sZ),(139,qo),(141,sJ),(142,jm),(143,sO),(145,j7),(146,qc),(148,sM)] [(70,2,ql),(71,7,ue)] [(68,iW),(69,jR),(70,mn)]
theorem abr:aO agi:=af ae ⟨qS,FQ,IC,Kh,gy,jQ,u7,vT,rU,wU,jv,vd,lg,ry,vn,trivial⟩ ⟨mw,rE,trivial⟩ ⟨gU,iM,kH,trivial⟩
def WO (p1:Pos)(p2:Mv)(p3:Pos)(p4:Mv)(p5:Int)(x:(Int×Pos)):St:=St.mk (.ptr 3 0::.any::.int .u8 x.1::(an 118 [])) (Hp.mk [(pc p1 []),[.int .i8 p2.aD,.int .i8 p2.to,.int .u8 p2.bU,.int .u8 p2.bh,.bool p2.bZ],zpB,(pc x.2 (pc p3 [.int .i8 p4.aD,.int .i8 p4.to,.int .u8 p4.bU,.int .u8 p4.bh,.bool p4.bZ,.int .i64 p5]))] [] [] 0 0 0)
def WI (p1:Pos)(p2:Mv)(p3:Pos)(p4:Mv)(p5:Int):(Int×Bool×Pos)→Out:=fun y=>.exit 0 (St.mk (.ptr 3 0::.any::.int .u8 y.1::(an 28 (.bool y.2.1::(an 89 [])))) (Hp.mk [(pc p1 []),[.int .i8 p2.aD,.int .i8 p2.to,.int .u8 p2.bU,.int .u8 p2.bh,.bool p2.bZ],zpB,(pc y.2.2 (pc p3 [.int .i8 p4.aD,.int .i8 p4.to,.int .u8 p4.bU,.int .u8 p4.bh,.bool p4.bZ,.int .i64 p5]))] [] [] 0 0 0))
def Es (p1:Pos)(p2:Mv)(p3:Pos)(p4:Mv)(p5:Int)(x:(Int×Pos)):aG (Int×Pos) ((Int×Bool×Pos)):=(bif decide (x.1≤1)then(aG.go (wr .u8 (x.1+1),((lW x.1 (bg x.2 x.1 6) (List.take 2 (List.drop (scale 2 x.1).toNat x.2.ao)) p1 p2 p3 p4 p5 (0,x.2)).getD default).2.2))else(aG.out ((x.1,decide (x.1≤1),x.2))))
def y0 (p1:Pos)(p2:Mv)(p3:Pos)(p4:Mv)(p5:Int)(x:(Int×Pos)):Bool:=(bif decide (x.1≤1)then(iz (x.2) (x.1) 6&&(decide (0≤x.1)&&decide (x.1<Int.ofNat 2)&&((lW x.1 (bg x.2 x.1 6) (List.take 2 (List.drop (scale 2 x.1).toNat x.2.ao)) p1 p2 p3 p4 p5 (0,x.2)).isSome&&true)))else true)
def ew (p1:Pos)(p2:Mv)(p3:Pos)(p4:Mv)(p5:Int)(x:(Int×Pos)):Option ((Int×Bool×Pos)):=cW (fun x=>bif y0 p1 p2 p3 p4 p5 x then Es p1 p2 p3 p4 p5 x else .bad) many x
abbrev VG {α:Type}(k:Pos→Mv→Pos→Mv→Int→(Int×Pos)→α)(s:St):α:=wP s 0 fun q0=>wP s 3 fun q3=>wM s 1 fun q1=>k q0 q1 (Kz.Pos.mk (tI (tH s 3 10)) (tN (tH s 3 11)) (tU (tH s 3 12)) (tN (tH s 3 13)) (tI (tH s 3 14)) (tN (tH s 3 15)) (tI (tH s 3 16)) (tN (tH s 3 17)) (tI (tH s 3 18)) (tI (tH s 3 19))) (Kz.Mv.mk (tI (tH s 3 20)) (tI (tH s 3 21)) (tI (tH s 3 22)) (tI (tH s 3 23)) (tB (tH s 3 24))) (tI (tH s 3 25)) ((tI (tT s 2)),q3)
theorem ahx (p1:Pos)(p2:Mv)(p3:Pos)(p4:Mv)(p5:Int)(x:(Int×Pos))(r:(Int×Bool×Pos))(h:ew p1 p2 p3 p4 p5 x=some r):aC Pz (bc Pz 71 3) (WO p1 p2 p3 p4 p5 x) (WI p1 p2 p3 p4 p5 r):=smq (m:=12) (fn:=71) abr (VG fun _ _ _ _ _ x=>some x) (fun o=>match o with | .exit 0 s=>wP s 3 fun q3=>some ((tI (tT s 2)),(tB (tT s 31)),q3)|_=>none) many x r h
def ye (b:Code)(s:St):Tr Out:=VG (fun p1 p2 p3 p4 p5 x=>jS b (bc Pz 71 3) s (WO p1 p2 p3 p4 p5 x) (ew p1 p2 p3 p4 p5 x) (WI p1 p2 p3 p4 p5)) s
theorem vK:∀b,aT Pz b (ye b):=fun _ _ _ h=>bF (ahx _ _ _ _ _ _) h
def aeN:ar:=bO Pz Nl [(149,qF),(66,DO),(65,Gq),(67,J0),(147,gi),(135,jt),(137,sS),(138,sZ),(139,qo),(141,sJ),(142,jm),(143,sO),(145,j7),(146,qc),(148,sM)] [(70,2,ql),(71,7,ue),(71,3,ye)] [(68,iW),(69,jR),(70,mn)]
theorem YP:aO aeN:=af ae ⟨qS,FQ,IC,Kh,gy,jQ,u7,vT,rU,wU,jv,vd,lg,ry,vn,trivial⟩ ⟨mw,rE,vK,trivial⟩ ⟨gU,iM,kH,trivial⟩
def WK (p1:Pos)(p2:Mv)(p3:Pos)(p4:Pos)(p5:Mv)(p6:Int):List AV:=[AV.ptr 3 0]
def Vt (p1:Pos)(p2:Mv)(p3:Pos)(p4:Pos)(p5:Mv)(p6:Int):Hp:=Hp.mk [(pc p1 []),[AV.int .i8 p2.aD,AV.int .i8 p2.to,AV.int .u8 p2.bU,AV.int .u8 p2.bh,AV.bool p2.bZ],zpB,(pc p3 (pc p4 [AV.int .i8 p5.aD,AV.int .i8 p5.to,AV.int .u8 p5.bU,AV.int .u8 p5.bh,AV.bool p5.bZ,AV.int .i64 p6]))] [] [] 0 0 0
def Og (p1:Pos)(p2:Mv)(p3:Pos)(p4:Pos)(p5:Mv)(p6:Int)(y:(Pos)):bL := .ret (.tuple []) (Hp.mk [(pc p1 []),[.int .i8 p2.aD,.int .i8 p2.to,.int .u8 p2.bU,.int .u8 p2.bh,.bool p2.bZ],zpB,(pc y (pc p4 [.int .i8 p5.aD,.int .i8 p5.to,.int .u8 p5.bU,.int .u8 p5.bh,.bool p5.bZ,.int .i64 p6]))] [] [] 0 0 0)
def de (p1:Pos)(p2:Mv)(p3:Pos)(p4:Pos)(p5:Mv)(p6:Int):(Pos):=(bif p5.bh != 0 then(bif p5.bh==6 then(bif p5.bh==0 then(((ew p1 p2 p4 p5 p6 (0,u32 p3 (List.take (scale 2 p3.aa).toNat p3.ao++li [-1,-1]++List.drop ((scale 2 p3.aa).toNat+2) p3.ao))).getD default).2.2)else(((ew p1 p2 p4 p5 p6 (0,p3)).getD default).2.2))else(((ew p1 p2 p4 p5 p6 (0,p3)).getD default).2.2))else(bif di (p4.ab.getD (scale 1 p5.aD).toNat 0)==6 then(bif p5.bh==0 then(((ew p1 p2 p4 p5 p6 (0,u32 p3 (List.take (scale 2 p3.aa).toNat p3.ao++li [-1,-1]++List.drop ((scale 2 p3.aa).toNat+2) p3.ao))).getD default).2.2)else(((ew p1 p2 p4 p5 p6 (0,p3)).getD default).2.2))else(((ew p1 p2 p4 p5 p6 (0,p3)).getD default).2.2)))
def oU (p1:Pos)(p2:Mv)(p3:Pos)(p4:Pos)(p5:Mv)(p6:Int):Bool:=(bif p5.bh != 0 then(bif p5.bh==6 then(bif p5.bh==0 then(decide (0≤p3.aa)&&decide (p3.aa<Int.ofNat 2)&&((ew p1 p2 p4 p5 p6 (0,u32 p3 (List.take (scale 2 p3.aa).toNat p3.ao++li [-1,-1]++List.drop ((scale 2 p3.aa).toNat+2) p3.ao))).isSome&&true))else((ew p1 p2 p4 p5 p6 (0,p3)).isSome&&true))else((ew p1 p2 p4 p5 p6 (0,p3)).isSome&&true))else(decide (0≤p5.aD)&&decide (p5.aD<Int.ofNat 64)&&(bif di (p4.ab.getD (scale 1 p5.aD).toNat 0)==6 then(bif p5.bh==0 then(decide (0≤p3.aa)&&decide (p3.aa<Int.ofNat 2)&&((ew p1 p2 p4 p5 p6 (0,u32 p3 (List.take (scale 2 p3.aa).toNat p3.ao++li [-1,-1]++List.drop ((scale 2 p3.aa).toNat+2) p3.ao))).isSome&&true))else((ew p1 p2 p4 p5 p6 (0,p3)).isSome&&true))else((ew p1 p2 p4 p5 p6 (0,p3)).isSome&&true))))
abbrev aaE {α:Type}(k:Pos→Mv→Pos→Pos→Mv→Int→α)(s:St):α:=wP s 0 fun q0=>wP s 3 fun q3=>wM s 1 fun q1=>k q0 q1 q3 (Kz.Pos.mk (tI (tH s 3 10)) (tN (tH s 3 11)) (tU (tH s 3 12)) (tN (tH s 3 13)) (tI (tH s 3 14)) (tN (tH s 3 15)) (tI (tH s 3 16)) (tN (tH s 3 17)) (tI (tH s 3 18)) (tI (tH s 3 19))) (Kz.Mv.mk (tI (tH s 3 20)) (tI (tH s 3 21)) (tI (tH s 3 22)) (tI (tH s 3 23)) (tB (tH s 3 24))) (tI (tH s 3 25))
theorem YM (p1:Pos)(p2:Mv)(p3:Pos)(p4:Pos)(p5:Mv)(p6:Int)(h:oU p1 p2 p3 p4 p5 p6=true):dz Pz 71 (WK p1 p2 p3 p4 p5 p6) (Vt p1 p2 p3 p4 p5 p6) (Og p1 p2 p3 p4 p5 p6 (de p1 p2 p3 p4 p5 p6))∧∃fn,Pz.funcs[71]?=some fn∧fn.body.isSome=true:=kR (n:=14) (O:=Og p1 p2 p3 p4 p5 p6) YP (fun o=>match o with | .ret v h=>(let s:St:=⟨[v],h⟩;wP s 3 fun q3=>some q3)|_=>none) (fun _=>rfl) (by kernel_rfl) (by kernel_rfl) (by kernel_rfl) (by kernel_rfl) h
def tZ (xs:List AV)(h:Hp):Tr bL:=aaE (fun p1 p2 p3 p4 p5 p6=>fk xs h (WK p1 p2 p3 p4 p5 p6) (Vt p1 p2 p3 p4 p5 p6) (oU p1 p2 p3 p4 p5 p6) (Og p1 p2 p3 p4 p5 p6) (de p1 p2 p3 p4 p5 p6)) ⟨xs,h⟩
theorem tg:dF Pz 71 tZ:=fun _ _ _ h=>vO (YM _ _ _ _ _ _) h
def aeC:ar:=bO Pz Nl [(149,qF),(66,DO),(65,Gq),(67,J0),(147,gi),(135,jt),(137,sS),(138,sZ),(139,qo),(141,sJ),(142,jm),(143,sO),(145,j7),(146,qc),(148,sM)] [(70,2,ql),(71,7,ue),(71,3,ye)] [(68,iW),(69,jR),(70,mn),(71,tZ)]
theorem aab:aO aeC:=af ae ⟨qS,FQ,IC,Kh,gy,jQ,u7,vT,rU,wU,jv,vd,lg,ry,vn,trivial⟩ ⟨mw,rE,vK,trivial⟩ ⟨gU,iM,kH,tg,trivial⟩
def WC (p1:Pos)(p2:Mv)(p3:Pos)(p4:Pos)(p5:Mv)(p6:Int):List AV:=[AV.ptr 3 0]
def Wa (p1:Pos)(p2:Mv)(p3:Pos)(p4:Pos)(p5:Mv)(p6:Int):Hp:=Hp.mk [(pc p1 []),[AV.int .i8 p2.aD,AV.int .i8 p2.to,AV.int .u8 p2.bU,AV.int .u8 p2.bh,AV.bool p2.bZ],zpB,(pc p3 (pc p4 [AV.int .i8 p5.aD,AV.int .i8 p5.to,AV.int .u8 p5.bU,AV.int .u8 p5.bh,AV.bool p5.bZ,AV.int .i64 p6]))] [] [] 0 0 0
def PK (p1:Pos)(p2:Mv)(p3:Pos)(p4:Pos)(p5:Mv)(p6:Int)(y:(Pos)):bL := .ret (.tuple []) (Hp.mk [(pc p1 []),[.int .i8 p2.aD,.int .i8 p2.to,.int .u8 p2.bU,.int .u8 p2.bh,.bool p2.bZ],zpB,(pc y (pc p4 [.int .i8 p5.aD,.int .i8 p5.to,.int .u8 p5.bU,.int .u8 p5.bh,.bool p5.bZ,.int .i64 p6]))] [] [] 0 0 0)
def dE (p1:Pos)(p2:Mv)(p3:Pos)(p4:Pos)(p5:Mv)(p6:Int):(Pos):=(bif p5.bh != 0 then(bif p5.bh != 1 then(u64 p3 (-1))else(bif p5.bh != 0 then(u64 p3 (-1))else(bif wr .i8 (p5.to-p5.aD) != 16 then(bif wr .i8 (p5.aD-p5.to) != 16 then(u64 p3 (-1))else(bif wr .i8 (p5.aD.tdiv 8) != wr .i8 (wr .i8 (7*wr .i8 p3.aa)+1)then(bif wr .i8 (p5.aD.tdiv 8) != wr .i8 (wr .i8 (7*wr .i8 p3.aa)-1)then(u64 p3 (-1))else(bif eW p3.aa (wr .i64 (wr .i8 ((wr .i8 (p5.aD+p5.to)).tdiv 2)))&&&aS (u64 p3 (-1)) (wr .u8 (1-p3.aa)) 1 != 0#64 then(u64 p3 (wr .i8 ((wr .i8 (p5.aD+p5.to)).tdiv 2)))else(u64 p3 (-1))))else(bif eW p3.aa (wr .i64 (wr .i8 ((wr .i8 (p5.aD+p5.to)).tdiv 2)))&&&aS (u64 p3 (-1)) (wr .u8 (1-p3.aa)) 1 != 0#64 then(u64 p3 (wr .i8 ((wr .i8 (p5.aD+p5.to)).tdiv 2)))else(u64 p3 (-1)))))else(bif wr .i8 (p5.aD.tdiv 8) != wr .i8 (wr .i8 (7*wr .i8 p3.aa)+1)then(bif wr .i8 (p5.aD.tdiv 8) != wr .i8 (wr .i8 (7*wr .i8 p3.aa)-1)then(u64 p3 (-1))else(bif eW p3.aa (wr .i64 (wr .i8 ((wr .i8 (p5.aD+p5.to)).tdiv 2)))&&&aS (u64 p3 (-1)) (wr .u8 (1-p3.aa)) 1 != 0#64 then(u64 p3 (wr .i8 ((wr .i8 (p5.aD+p5.to)).tdiv 2)))else(u64 p3 (-1))))else(bif eW p3.aa (wr .i64 (wr .i8 ((wr .i8 (p5.aD+p5.to)).tdiv 2)))&&&aS (u64 p3 (-1)) (wr .u8 (1-p3.aa)) 1 != 0#64 then(u64 p3 (wr .i8 ((wr .i8 (p5.aD+p5.to)).tdiv 2)))else(u64 p3 (-1)))))))else(bif di (p4.ab.getD (scale 1 p5.aD).toNat 0) != 1 then(u64 p3 (-1))else(bif p5.bh != 0 then(u64 p3 (-1))else(bif wr .i8 (p5.to-p5.aD) != 16 then(bif wr .i8 (p5.aD-p5.to) != 16 then(u64 p3 (-1))else(bif wr .i8 (p5.aD.tdiv 8) != wr .i8 (wr .i8 (7*wr .i8 p3.aa)+1)then(bif wr .i8 (p5.aD.tdiv 8) != wr .i8 (wr .i8 (7*wr .i8 p3.aa)-1)then(u64 p3 (-1))else(bif eW p3.aa (wr .i64 (wr .i8 ((wr .i8 (p5.aD+p5.to)).tdiv 2)))&&&aS (u64 p3 (-1)) (wr .u8 (1-p3.aa)) 1 != 0#64 then(u64 p3 (wr .i8 ((wr .i8 (p5.aD+p5.to)).tdiv 2)))else(u64 p3 (-1))))else(bif eW p3.aa (wr .i64 (wr .i8 ((wr .i8 (p5.aD+p5.to)).tdiv 2)))&&&aS (u64 p3 (-1)) (wr .u8 (1-p3.aa)) 1 != 0#64 then(u64 p3 (wr .i8 ((wr .i8 (p5.aD+p5.to)).tdiv 2)))else(u64 p3 (-1)))))else(bif wr .i8 (p5.aD.tdiv 8) != wr .i8 (wr .i8 (7*wr .i8 p3.aa)+1)then(bif wr .i8 (p5.aD.tdiv 8) != wr .i8 (wr .i8 (7*wr .i8 p3.aa)-1)then(u64 p3 (-1))else(bif eW p3.aa (wr .i64 (wr .i8 ((wr .i8 (p5.aD+p5.to)).tdiv 2)))&&&aS (u64 p3 (-1)) (wr .u8 (1-p3.aa)) 1 != 0#64 then(u64 p3 (wr .i8 ((wr .i8 (p5.aD+p5.to)).tdiv 2)))else(u64 p3 (-1))))else(bif eW p3.aa (wr .i64 (wr .i8 ((wr .i8 (p5.aD+p5.to)).tdiv 2)))&&&aS (u64 p3 (-1)) (wr .u8 (1-p3.aa)) 1 != 0#64 then(u64 p3 (wr .i8 ((wr .i8 (p5.aD+p5.to)).tdiv 2)))else(u64 p3 (-1))))))))
def pU (p1:Pos)(p2:Mv)(p3:Pos)(p4:Pos)(p5:Mv)(p6:Int):Bool:=(bif p5.bh != 0 then(bif p5.bh != 1 then true else(bif p5.bh != 0 then true else(bif wr .i8 (p5.to-p5.aD) != 16 then(bif wr .i8 (p5.aD-p5.to) != 16 then true else(bif wr .i8 (p5.aD.tdiv 8) != wr .i8 (wr .i8 (7*wr .i8 p3.aa)+1)then(bif wr .i8 (p5.aD.tdiv 8) != wr .i8 (wr .i8 (7*wr .i8 p3.aa)-1)then true else(jJ (p3.aa) (wr .i64 (wr .i8 ((wr .i8 (p5.aD+p5.to)).tdiv 2)))&&(cF (u64 p3 (-1)) (wr .u8 (1-p3.aa)) 1&&true)))else(jJ (p3.aa) (wr .i64 (wr .i8 ((wr .i8 (p5.aD+p5.to)).tdiv 2)))&&(cF (u64 p3 (-1)) (wr .u8 (1-p3.aa)) 1&&true))))else(bif wr .i8 (p5.aD.tdiv 8) != wr .i8 (wr .i8 (7*wr .i8 p3.aa)+1)then(bif wr .i8 (p5.aD.tdiv 8) != wr .i8 (wr .i8 (7*wr .i8 p3.aa)-1)then true else(jJ (p3.aa) (wr .i64 (wr .i8 ((wr .i8 (p5.aD+p5.to)).tdiv 2)))&&(cF (u64 p3 (-1)) (wr .u8 (1-p3.aa)) 1&&true)))else(jJ (p3.aa) (wr .i64 (wr .i8 ((wr .i8 (p5.aD+p5.to)).tdiv 2)))&&(cF (u64 p3 (-1)) (wr .u8 (1-p3.aa)) 1&&true))))))else(decide (0≤p5.aD)&&decide (p5.aD<Int.ofNat 64)&&(bif di (p4.ab.getD (scale 1 p5.aD).toNat 0) != 1 then true else(bif p5.bh != 0 then true else(bif wr .i8 (p5.to-p5.aD) != 16 then(bif wr .i8 (p5.aD-p5.to) != 16 then true else(bif wr .i8 (p5.aD.tdiv 8) != wr .i8 (wr .i8 (7*wr .i8 p3.aa)+1)then(bif wr .i8 (p5.aD.tdiv 8) != wr .i8 (wr .i8 (7*wr .i8 p3.aa)-1)then true else(jJ (p3.aa) (wr .i64 (wr .i8 ((wr .i8 (p5.aD+p5.to)).tdiv 2)))&&(cF (u64 p3 (-1)) (wr .u8 (1-p3.aa)) 1&&true)))else(jJ (p3.aa) (wr .i64 (wr .i8 ((wr .i8 (p5.aD+p5.to)).tdiv 2)))&&(cF (u64 p3 (-1)) (wr .u8 (1-p3.aa)) 1&&true))))else(bif wr .i8 (p5.aD.tdiv 8) != wr .i8 (wr .i8 (7*wr .i8 p3.aa)+1)then(bif wr .i8 (p5.aD.tdiv 8) != wr .i8 (wr .i8 (7*wr .i8 p3.aa)-1)then true else(jJ (p3.aa) (wr .i64 (wr .i8 ((wr .i8 (p5.aD+p5.to)).tdiv 2)))&&(cF (u64 p3 (-1)) (wr .u8 (1-p3.aa)) 1&&true)))else(jJ (p3.aa) (wr .i64 (wr .i8 ((wr .i8 (p5.aD+p5.to)).tdiv 2)))&&(cF (u64 p3 (-1)) (wr .u8 (1-p3.aa)) 1&&true))))))))
abbrev aad {α:Type}(k:Pos→Mv→Pos→Pos→Mv→Int→α)(s:St):α:=wP s 0 fun q0=>wP s 3 fun q3=>wM s 1 fun q1=>k q0 q1 q3 (Kz.Pos.mk (tI (tH s 3 10)) (tN (tH s 3 11)) (tU (tH s 3 12)) (tN (tH s 3 13)) (tI (tH s 3 14)) (tN (tH s 3 15)) (tI (tH s 3 16)) (tN (tH s 3 17)) (tI (tH s 3 18)) (tI (tH s 3 19))) (Kz.Mv.mk (tI (tH s 3 20)) (tI (tH s 3 21)) (tI (tH s 3 22)) (tI (tH s 3 23)) (tB (tH s 3 24))) (tI (tH s 3 25))
theorem ZK (p1:Pos)(p2:Mv)(p3:Pos)(p4:Pos)(p5:Mv)(p6:Int)(h:pU p1 p2 p3 p4 p5 p6=true):dz Pz 72 (WC p1 p2 p3 p4 p5 p6) (Wa p1 p2 p3 p4 p5 p6) (PK p1 p2 p3 p4 p5 p6 (dE p1 p2 p3 p4 p5 p6))∧∃fn,Pz.funcs[72]?=some fn∧fn.body.isSome=true:=kR (n:=14) (O:=PK p1 p2 p3 p4 p5 p6) aab (fun o=>match o with | .ret v h=>(let s:St:=⟨[v],h⟩;wP s 3 fun q3=>some q3)|_=>none) (fun _=>rfl) (by kernel_rfl) (by kernel_rfl) (by kernel_rfl) (by kernel_rfl) h
def Ae (xs:List AV)(h:Hp):Tr bL:=aad (fun p1 p2 p3 p4 p5 p6=>fk xs h (WC p1 p2 p3 p4 p5 p6) (Wa p1 p2 p3 p4 p5 p6) (pU p1 p2 p3 p4 p5 p6) (PK p1 p2 p3 p4 p5 p6) (dE p1 p2 p3 p4 p5 p6)) ⟨xs,h⟩
theorem AH:dF Pz 72 Ae:=fun _ _ _ h=>vO (ZK _ _ _ _ _ _) h
def aaA:ar:=bO Pz Nl [(149,qF),(66,DO),(65,Gq),(67,J0),(147,gi),(135,jt),(137,sS),(138,sZ),(139,qo),(141,sJ),(142,jm),(143,sO),(145,j7),(146,qc),(148,sM)] [(70,2,ql),(71,7,ue),(71,3,ye)] [(68,iW),(69,jR),(70,mn),(71,tZ),(72,Ae)]
theorem To:aO aaA:=af ae ⟨qS,FQ,IC,Kh,gy,jQ,u7,vT,rU,wU,jv,vd,lg,ry,vn,trivial⟩ ⟨mw,rE,vK,trivial⟩ ⟨gU,iM,kH,tg,AH,trivial⟩
def L0 (p1:Pos)(p2:Mv)(p3:Pos)(p4:Pos)(p5:Mv)(p6:Int):List AV:=[AV.ptr 3 0]
def Nv (p1:Pos)(p2:Mv)(p3:Pos)(p4:Pos)(p5:Mv)(p6:Int):Hp:=Hp.mk [(pc p1 []),[AV.int .i8 p2.aD,AV.int .i8 p2.to,AV.int .u8 p2.bU,AV.int .u8 p2.bh,AV.bool p2.bZ],zpB,(pc p3 (pc p4 [AV.int .i8 p5.aD,AV.int .i8 p5.to,AV.int .u8 p5.bU,AV.int .u8 p5.bh,AV.bool p5.bZ,AV.int .i64 p6]))] [] [] 0 0 0
def Fo (p1:Pos)(p2:Mv)(p3:Pos)(p4:Pos)(p5:Mv)(p6:Int)(y:(Pos)):bL := .ret (.tuple []) (Hp.mk [(pc p1 []),[.int .i8 p2.aD,.int .i8 p2.to,.int .u8 p2.bU,.int .u8 p2.bh,.bool p2.bZ],zpB,(pc y (pc p4 [.int .i8 p5.aD,.int .i8 p5.to,.int .u8 p5.bU,.int .u8 p5.bh,.bool p5.bZ,.int .i64 p6]))] [] [] 0 0 0)
def c9 (p1:Pos)(p2:Mv)(p3:Pos)(p4:Pos)(p5:Mv)(p6:Int):(Pos):=(bif p5.bh != 0 then(bif p5.bh==1 then(bif p3.aa==1 then(JH p3 0 (lU p3.full))else(JE p3 0))else(bif decide (p6≥0)then(bif p3.aa==1 then(JH p3 0 (lU p3.full))else(JE p3 0))else(bif p3.aa==1 then(JH p3 (lU p3.half) (lU p3.full))else(JE p3 (lU p3.half)))))else(bif di (p4.ab.getD (scale 1 p5.aD).toNat 0)==1 then(bif p3.aa==1 then(JH p3 0 (lU p3.full))else(JE p3 0))else(bif decide (p6≥0)then(bif p3.aa==1 then(JH p3 0 (lU p3.full))else(JE p3 0))else(bif p3.aa==1 then(JH p3 (lU p3.half) (lU p3.full))else(JE p3 (lU p3.half))))))
def lX (p1:Pos)(p2:Mv)(p3:Pos)(p4:Pos)(p5:Mv)(p6:Int):Bool:=(bif p5.bh != 0 then true else(decide (0≤p5.aD)&&decide (p5.aD<Int.ofNat 64)&&true))
abbrev Uo {α:Type}(k:Pos→Mv→Pos→Pos→Mv→Int→α)(s:St):α:=wP s 0 fun q0=>wP s 3 fun q3=>wM s 1 fun q1=>k q0 q1 q3 (Kz.Pos.mk (tI (tH s 3 10)) (tN (tH s 3 11)) (tU (tH s 3 12)) (tN (tH s 3 13)) (tI (tH s 3 14)) (tN (tH s 3 15)) (tI (tH s 3 16)) (tN (tH s 3 17)) (tI (tH s 3 18)) (tI (tH s 3 19))) (Kz.Mv.mk (tI (tH s 3 20)) (tI (tH s 3 21)) (tI (tH s 3 22)) (tI (tH s 3 23)) (tB (tH s 3 24))) (tI (tH s 3 25))
theorem Tw (p1:Pos)(p2:Mv)(p3:Pos)(p4:Pos)(p5:Mv)(p6:Int)(h:lX p1 p2 p3 p4 p5 p6=true):dz Pz 73 (L0 p1 p2 p3 p4 p5 p6) (Nv p1 p2 p3 p4 p5 p6) (Fo p1 p2 p3 p4 p5 p6 (c9 p1 p2 p3 p4 p5 p6))∧∃fn,Pz.funcs[73]?=some fn∧fn.body.isSome=true:=kR (n:=14) (O:=Fo p1 p2 p3 p4 p5 p6) To (fun o=>match o with | .ret v h=>(let s:St:=⟨[v],h⟩;wP s 3 fun q3=>some q3)|_=>none) (fun _=>rfl) (by kernel_rfl) (by kernel_rfl) (by kernel_rfl) (by kernel_rfl) h
def zH (xs:List AV)(h:Hp):Tr bL:=Uo (fun p1 p2 p3 p4 p5 p6=>fk xs h (L0 p1 p2 p3 p4 p5 p6) (Nv p1 p2 p3 p4 p5 p6) (lX p1 p2 p3 p4 p5 p6) (Fo p1 p2 p3 p4 p5 p6) (c9 p1 p2 p3 p4 p5 p6)) ⟨xs,h⟩
theorem De:dF Pz 73 zH:=fun _ _ _ h=>vO (Tw _ _ _ _ _ _) h
def Yz:ar:=bO Pz Nl [(149,qF),(66,DO),(65,Gq),(67,J0),(147,gi),(135,jt),(137,sS),(138,sZ),(139,qo),(141,sJ),(142,jm),(143,sO),(145,j7),(146,qc),(148,sM)] [(70,2,ql),(71,7,ue),(71,3,ye)] [(68,iW),(69,jR),(70,mn),(71,tZ),(72,Ae),(73,zH)]
theorem Sz:aO Yz:=af ae ⟨qS,FQ,IC,Kh,gy,jQ,u7,vT,rU,wU,jv,vd,lg,ry,vn,trivial⟩ ⟨mw,rE,vK,trivial⟩ ⟨gU,iM,kH,tg,AH,De,trivial⟩
def O1 (p1:Pos)(p2:Mv)(p3:Pos)(p4:Pos)(p5:Mv)(p6:Int):List AV:=[AV.ptr 3 0]
def NI (p1:Pos)(p2:Mv)(p3:Pos)(p4:Pos)(p5:Mv)(p6:Int):Hp:=Hp.mk [(pc p1 []),[AV.int .i8 p2.aD,AV.int .i8 p2.to,AV.int .u8 p2.bU,AV.int .u8 p2.bh,AV.bool p2.bZ],zpB,(pc p3 (pc p4 [AV.int .i8 p5.aD,AV.int .i8 p5.to,AV.int .u8 p5.bU,AV.int .u8 p5.bh,AV.bool p5.bZ,AV.int .i64 p6]))] [] [] 0 0 0
def EH (p1:Pos)(p2:Mv)(p3:Pos)(p4:Pos)(p5:Mv)(p6:Int)(y:(Pos)):bL := .ret (.tuple []) (Hp.mk [(pc p1 []),[.int .i8 p2.aD,.int .i8 p2.to,.int .u8 p2.bU,.int .u8 p2.bh,.bool p2.bZ],zpB,(pc y (pc p4 [.int .i8 p5.aD,.int .i8 p5.to,.int .u8 p5.bU,.int .u8 p5.bh,.bool p5.bZ,.int .i64 p6]))] [] [] 0 0 0)
def df (p1:Pos)(p2:Mv)(p3:Pos)(p4:Pos)(p5:Mv)(p6:Int):(Pos):=(bif p3.variant==5 then(bif decide (p3.au.getD (scale 1 (wr .u8 (1-wr .u8 (1-p3.aa)))).toNat 0<3)then(bif ju (u16 p3 (wr .u8 (1-p3.aa))) (wr .u8 (1-p3.aa))then(apL p3 (wr .u8 (1-p3.aa)) (p3.au.set (scale 1 (wr .u8 (1-wr .u8 (1-p3.aa)))).toNat (wr .u8 (p3.au.getD (scale 1 (wr .u8 (1-wr .u8 (1-p3.aa)))).toNat 0+1))))else(u16 p3 (wr .u8 (1-p3.aa))))else(u16 p3 (wr .u8 (1-p3.aa))))else(u16 p3 (wr .u8 (1-p3.aa))))
def mD (p1:Pos)(p2:Mv)(p3:Pos)(p4:Pos)(p5:Mv)(p6:Int):Bool:=(bif p3.variant==5 then(decide (0≤wr .u8 (1-wr .u8 (1-p3.aa)))&&decide (wr .u8 (1-wr .u8 (1-p3.aa))<Int.ofNat 2)&&(bif decide (p3.au.getD (scale 1 (wr .u8 (1-wr .u8 (1-p3.aa)))).toNat 0<3)then(lZ (u16 p3 (wr .u8 (1-p3.aa))) (wr .u8 (1-p3.aa))&&(bif ju (u16 p3 (wr .u8 (1-p3.aa))) (wr .u8 (1-p3.aa))then(decide (0≤wr .u8 (1-wr .u8 (1-p3.aa)))&&decide (wr .u8 (1-wr .u8 (1-p3.aa))<Int.ofNat 2)&&(decide (0≤wr .u8 (1-wr .u8 (1-p3.aa)))&&decide (wr .u8 (1-wr .u8 (1-p3.aa))<Int.ofNat 2)&&true))else true))else true))else true)
abbrev Ui {α:Type}(k:Pos→Mv→Pos→Pos→Mv→Int→α)(s:St):α:=wP s 0 fun q0=>wP s 3 fun q3=>wM s 1 fun q1=>k q0 q1 q3 (Kz.Pos.mk (tI (tH s 3 10)) (tN (tH s 3 11)) (tU (tH s 3 12)) (tN (tH s 3 13)) (tI (tH s 3 14)) (tN (tH s 3 15)) (tI (tH s 3 16)) (tN (tH s 3 17)) (tI (tH s 3 18)) (tI (tH s 3 19))) (Kz.Mv.mk (tI (tH s 3 20)) (tI (tH s 3 21)) (tI (tH s 3 22)) (tI (tH s 3 23)) (tB (tH s 3 24))) (tI (tH s 3 25))
theorem Sp (p1:Pos)(p2:Mv)(p3:Pos)(p4:Pos)(p5:Mv)(p6:Int)(h:mD p1 p2 p3 p4 p5 p6=true):dz Pz 74 (O1 p1 p2 p3 p4 p5 p6) (NI p1 p2 p3 p4 p5 p6) (EH p1 p2 p3 p4 p5 p6 (df p1 p2 p3 p4 p5 p6))∧∃fn,Pz.funcs[74]?=some fn∧fn.body.isSome=true:=kR (n:=14) (O:=EH p1 p2 p3 p4 p5 p6) Sz (fun o=>match o with | .ret v h=>(let s:St:=⟨[v],h⟩;wP s 3 fun q3=>some q3)|_=>none) (fun _=>rfl) (by kernel_rfl) (by kernel_rfl) (by kernel_rfl) (by kernel_rfl) h
def G1 (xs:List AV)(h:Hp):Tr bL:=Ui (fun p1 p2 p3 p4 p5 p6=>fk xs h (O1 p1 p2 p3 p4 p5 p6) (NI p1 p2 p3 p4 p5 p6) (mD p1 p2 p3 p4 p5 p6) (EH p1 p2 p3 p4 p5 p6) (df p1 p2 p3 p4 p5 p6)) ⟨xs,h⟩
theorem QZ:dF Pz 74 G1:=fun _ _ _ h=>vO (Sp _ _ _ _ _ _) h
def B31:ar:=bO Pz Nl [(149,qF),(66,DO),(65,Gq),(67,J0),(147,gi),(135,jt),(137,sS),(138,sZ),(139,qo),(141,sJ),(142,jm),(143,sO),(145,j7),(146,qc),(148,sM)] [(70,2,ql),(71,7,ue),(71,3,ye)] [(68,iW),(69,jR),(70,mn),(71,tZ),(72,Ae),(73,zH),(74,G1)]
theorem amZ:aO B31:=af ae ⟨qS,FQ,IC,Kh,gy,jQ,u7,vT,rU,wU,jv,vd,lg,ry,vn,trivial⟩ ⟨mw,rE,vK,trivial⟩ ⟨gU,iM,kH,tg,AH,De,QZ,trivial⟩
def du (a:Pos)(b:Mv):(Pos×Bool):=(bif !Kf (bR a) b then(⟨(a.variant),(a.ab),(a.ai),(a.ah),(a.aa),(a.ao),(a.az),(a.au),(a.half),(a.full)⟩,false)else(⟨((df a b (c9 a b (dE a b (de a b (cV a b (cy a b (bT a b a a b (bC a b)) a b (bC a b)) a b (bC a b)) a b (bC a b)) a b (bC a b)) a b (bC a b)) a b (bC a b)).variant),((df a b (c9 a b (dE a b (de a b (cV a b (cy a b (bT a b a a b (bC a b)) a b (bC a b)) a b (bC a b)) a b (bC a b)) a b (bC a b)) a b (bC a b)) a b (bC a b)).ab),((df a b (c9 a b (dE a b (de a b (cV a b (cy a b (bT a b a a b (bC a b)) a b (bC a b)) a b (bC a b)) a b (bC a b)) a b (bC a b)) a b (bC a b)) a b (bC a b)).ai),((df a b (c9 a b (dE a b (de a b (cV a b (cy a b (bT a b a a b (bC a b)) a b (bC a b)) a b (bC a b)) a b (bC a b)) a b (bC a b)) a b (bC a b)) a b (bC a b)).ah),((df a b (c9 a b (dE a b (de a b (cV a b (cy a b (bT a b a a b (bC a b)) a b (bC a b)) a b (bC a b)) a b (bC a b)) a b (bC a b)) a b (bC a b)) a b (bC a b)).aa),((df a b (c9 a b (dE a b (de a b (cV a b (cy a b (bT a b a a b (bC a b)) a b (bC a b)) a b (bC a b)) a b (bC a b)) a b (bC a b)) a b (bC a b)) a b (bC a b)).ao),((df a b (c9 a b (dE a b (de a b (cV a b (cy a b (bT a b a a b (bC a b)) a b (bC a b)) a b (bC a b)) a b (bC a b)) a b (bC a b)) a b (bC a b)) a b (bC a b)).az),((df a b (c9 a b (dE a b (de a b (cV a b (cy a b (bT a b a a b (bC a b)) a b (bC a b)) a b (bC a b)) a b (bC a b)) a b (bC a b)) a b (bC a b)) a b (bC a b)).au),((df a b (c9 a b (dE a b (de a b (cV a b (cy a b (bT a b a a b (bC a b)) a b (bC a b)) a b (bC a b)) a b (bC a b)) a b (bC a b)) a b (bC a b)) a b (bC a b)).half),((df a b (c9 a b (dE a b (de a b (cV a b (cy a b (bT a b a a b (bC a b)) a b (bC a b)) a b (bC a b)) a b (bC a b)) a b (bC a b)) a b (bC a b)) a b (bC a b)).full)⟩,true))
def JR (a:Pos)(b:Mv):Bool:=(wG a&&(CM (bR a) b&&(bif !Kf (bR a) b then true else(J2 a b&&(qj a b a a b (bC a b)&&(oX a b (bT a b a a b (bC a b)) a b (bC a b)&&(qA a b (cy a b (bT a b a a b (bC a b)) a b (bC a b)) a b (bC a b)&&(oU a b (cV a b (cy a b (bT a b a a b (bC a b)) a b (bC a b)) a b (bC a b)) a b (bC a b)&&(pU a b (de a b (cV a b (cy a b (bT a b a a b (bC a b)) a b (bC a b)) a b (bC a b)) a b (bC a b)) a b (bC a b)&&(lX a b (dE a b (de a b (cV a b (cy a b (bT a b a a b (bC a b)) a b (bC a b)) a b (bC a b)) a b (bC a b)) a b (bC a b)) a b (bC a b)&&(mD a b (c9 a b (dE a b (de a b (cV a b (cy a b (bT a b a a b (bC a b)) a b (bC a b)) a b (bC a b)) a b (bC a b)) a b (bC a b)) a b (bC a b)) a b (bC a b)&&true)))))))))))
theorem P31 (a:Pos)(b:Mv)(h:JR a b=true):PS Pz 31 [Pos.av a,Mv.av b] ((d2 aZ dB).res (du a b)):=pq14 amZ h
def G31:GT:=g2 aZ rJ (fun a b=>b7 (JR a b) ((d2 aZ dB).res (du a b)))
theorem s31:Sound Pz 31 G31:=aP fun a b=>aA (P31 a b)
def am3:KT:=[(121,9,[(0,[1,2]),(1,[4])])]
def alk:ar:=bO Pz am3 [(145,j7)] [] []
theorem afa:aO alk:=af ae ⟨lg,trivial⟩ trivial trivial
def oC (a:Pos)(b:Int):Bool:=(decide (bg a b 6≥0))
def sx (a:Pos)(b:Int):Bool:=(iz a b 6&&true)
theorem aob (a:Pos)(b:Int)(h:sx a b=true):PS Pz 121 [Pos.av a,.int .u8 b] (dB.res (oC a b)):=pq14 afa h
def EK:GT:=g2 aZ (dI .u8) (fun a b=>b7 (sx a b) (dB.res (oC a b)))
theorem Iu:Sound Pz 121 EK:=aP fun a b=>aA (aob a b)
def atC:KT:=[(126,52,[(0,(2::3::(rn 30 10 (rn 45 6 [])))),(1,(2::5::6::(rn 30 10 (rn 45 6 [])))),(2,(2::5::14::(rn 30 10 (rn 45 6 [])))),(3,[4]),(4,(2::5::19::(rn 30 10 (rn 45 6 [])))),(5,(2::5::24::(rn 30 10 (rn 45 6 [])))),(6,[4]),(7,(2::5::40::(rn 45 6 []))),(8,[4]),(9,[4])])]
def atJ:ar:=bO Pz atC [(31,G31),(120,Fp),(149,qF),(121,EK)] [] []
theorem ahz:aO atJ:=af ae ⟨s31,Jz,qS,Iu,trivial⟩ trivial trivial
def gh (a:Pos)(b:Mv):Bool:=(bif !(du a b).2 then(false)else(bif pd a.variant a.aa then(bif !oC (du a b).1 a.aa then(false)else(bif ju (du a b).1 a.aa then(bif a.variant != 3 then(false)else(bif oC (du a b).1 (wr .u8 (1-a.aa))then(false)else(bif a.variant != 8 then(true)else(!ju (du a b).1 (wr .u8 (1-a.aa))))))else(bif a.variant != 8 then(true)else(!ju (du a b).1 (wr .u8 (1-a.aa))))))else(bif a.variant != 8 then(true)else(!ju (du a b).1 (wr .u8 (1-a.aa))))))
def so (a:Pos)(b:Mv):Bool:=(JR a b&&(bif !(du a b).2 then true else(lV (a.variant) (a.aa)&&(bif pd a.variant a.aa then(sx ((du a b).1) (a.aa)&&(bif !oC (du a b).1 a.aa then true else(lZ ((du a b).1) (a.aa)&&(bif ju (du a b).1 a.aa then(bif a.variant != 3 then true else(sx ((du a b).1) (wr .u8 (1-a.aa))&&(bif oC (du a b).1 (wr .u8 (1-a.aa))then true else(bif a.variant != 8 then true else(lZ ((du a b).1) (wr .u8 (1-a.aa))&&true)))))else(bif a.variant != 8 then true else(lZ ((du a b).1) (wr .u8 (1-a.aa))&&true))))))else(bif a.variant != 8 then true else(lZ ((du a b).1) (wr .u8 (1-a.aa))&&true))))))
theorem asP (a:Pos)(b:Mv)(h:so a b=true):PS Pz 126 [Pos.av a,Mv.av b] (dB.res (gh a b)):=pq14 ahz h
def JJ:GT:=g2 aZ rJ (fun a b=>b7 (so a b) (dB.res (gh a b)))
theorem NJ:Sound Pz 126 JJ:=aP fun a b=>aA (asP a b)
def Zn:ar:=gm Pz (fun _ _=>[]) [(47,Zu),(126,JJ)] [] []
theorem XF:aO Zn:=af ae ⟨s47,NJ,trivial⟩ trivial trivial
theorem ahQ (p:Pos)(m:Mv):cP Zn 14 124 [Mv.av m,.ptrf (.func 125 [] [.ptrf (Pos.av p)])]=Tr.br (so p m) (Tr.ret (AV.bool (!gh p m))) Tr.fail:=by kernel_rfl
theorem aif (p:Pos)(m:Mv):cP Zn 14 124 [Mv.av m,.ptrf (.func 127 [] [.ptrf (Pos.av p)])]=Tr.br (xi p m) (Tr.ret (AV.bool (!ig p m))) Tr.fail:=by kernel_rfl
theorem WW (p:Pos)(m:Mv)(h:so p m=true):aX Pz 124 [Mv.av m,.ptrf (.func 125 [] [.ptrf (Pos.av p)])] (.bool (!gh p m)) :=
 (F3 (d:=dB) XF (ahQ p m) (vl (NM rfl)) (by rw[h];rfl)).1
theorem XO (p:Pos)(m:Mv)(h:xi p m=true):aX Pz 124 [Mv.av m,.ptrf (.func 127 [] [.ptrf (Pos.av p)])] (.bool (!ig p m)) :=
 (F3 (d:=dB) XF (aif p m) (vl (NM rfl)) (by rw[h];rfl)).1
open Classical in
def E6 (p:Pos):Bool:=shut (decide (∀m,so p m=true))
theorem oF {p:Pos}:E6 p=true ↔ ∀m,so p m=true:=by unfold E6;rw[fL];simp
open Classical in
def Ox (p:Pos):Bool:=shut (decide (∀m,xi p m=true))
theorem rz {p:Pos}:Ox p=true ↔ ∀m,xi p m=true:=by unfold Ox;rw[fL];simp
def kept (f:Nat)(p:Pos)(l:M'):M':=l.filter (bif f.beq 125 then gh p else ig p)
def dD (f:Nat)(p:Pos)(l:M'):Bool:=decide (l.length≤qI)&&bif f.beq 125 then E6 p else f.beq 127&&Ox p
def Gm:List AV→Hp→Tr bL:=fun xs h=>match xs with
 | [.list .mv l _,.func f [] [.ptr b 0]]=>match h.heap[b]? with
  |some [.int .u8 v,.ints .u8 64 bd,.u64 pr,.ints .u8 12 pk,.int .u8 tn,.ints .i8 4 rk,.int .i8 ps,.ints .u8 2 ck,.int .i64 hf,.int .i64 fl] =>
   .guard (dD f ⟨v,bd,pr,pk,tn,rk,ps,ck,hf,fl⟩ l) (.ret (.ret (.list .mv (kept f ⟨v,bd,pr,pk,tn,rk,ps,ck,hf,fl⟩ l) .fresh) h))
  |_=>.fail
 |_=>.fail
theorem HY:∃fn,Pz.funcs[122]?=some fn∧fn.body.isSome=true:=by
 have h:(match Pz.funcs[122]? with
  |some fn=>fn.body.isSome
  |none=>false)=true:=by kernel_rfl
 simp_all
theorem My:dF Pz 122 Gm:=by
 intro xs h res he;unfold Gm at he;split at he
 ·rename_i l tk f b;split at he
  ·rename_i v bd pr pk tn rk ps ck hf fl hb;simp only[get_guard,aj,A']at he;obtain⟨h1,rfl⟩:=he;refine⟨?_,HY⟩;unfold dD at h1;simp only[E',decide_eq_true_eq]at h1;obtain⟨hl,h1⟩:=h1;unfold kept;cases hf3:f.beq 125 with
   |true =>rw[hf3]at h1;obtain rfl:=Nat.eq_of_beq_eq_true hf3;exact GN (p:=⟨v,bd,pr,pk,tn,rk,ps,ck,hf,fl⟩) hb (V8 _ _ _ l hl fun m=>WW _ m (oF.1 h1 m))
   |false =>rw[hf3]at h1;simp only[cond_false,E']at h1;obtain rfl:=Nat.eq_of_beq_eq_true h1.1;exact GN (p:=⟨v,bd,pr,pk,tn,rk,ps,ck,hf,fl⟩) hb (V8 _ _ _ l hl fun m=>XO _ m (rz.1 h1.2 m))
  ·simp at he
 ·simp at he
end Kz
namespace Go.Proofs
open Go.Shelf Go.RowKit Go.Lib Go.Sort Kz
def lQ (w w':World)(a:Option Addr)(cap:Nat)(l:M'):Prop :=
 (a=none∧l=[]∧cap=0)∨∃b ty,a=some ⟨b,0,none⟩∧w.heap.size≤b∧b<w'.heap.size∧l.length≤cap∧cap≤maxLen∧dq w' b cap ty l.toArray w'
set_option maxHeartbeats 2000000 in
set_option maxRecDepth 100000 in
theorem VH (p:Pos)(f2:Nat)(q:Mv→Bool)(l:M')(hll:l.length≤qI)(hq:∀m,aX Tryz.prog 124 [Mv.av m,.ptrf (.func f2 [] [.ptrf (Pos.av p)])] (.bool (!q m)))(w:World)(bw:Array Value)(hg:cN w)(hr:aI (cH w) [] w [.list .mv l .arg,.func f2 [] [.ptrf (Pos.av p)]] bw.toList) :
  Calls Tryz.prog 122 bw w fun e w'=>∃a cap,e=.returned (.slice a (l.filter q).length cap)∧RowKit.Below w.heap.size w w'∧lQ w w' a cap (l.filter q):=by
 obtain⟨bw⟩:=bw;cases hr with
 |cons q1 r1 =>
 cases r1 with
 |cons q2 r2 =>
 cases r2;cases q2 with
 |func ha hb =>
 rename_i x y;obtain⟨x⟩:=x;obtain⟨y⟩:=y;cases ha;cases hb with
 |cons q3 r3 =>
 cases r3;cases q3 with
 |ptrf hpc hpa =>
 rename_i pc po pcs;cases q1 with
 |list hn hE hS hT hC =>
 rename_i a n cap cs;subst hn;have hcs:=dH hE;obtain⟨fv,hfv⟩:∃fv:Value,fv=.func (.func f2) (Array.mk []) (Array.mk [.pointer (some ⟨pc,po,none⟩)]):=⟨_,rfl⟩;rw[←hfv]
 have hpred:∀(W:World) (u:Mv),w.heap.size+1≤W.heap.size→(∀k,k<w.heap.size+1→W.heap[k]?=(w.alloc (.cells #[fv] 74)).heap[k]?) →
   Calls Tryz.prog 124 (#[.agg (bP u).toArray]++#[.pointer (some ⟨w.heap.size,0,none⟩)]) W fun e w'=>e=.returned (.bool (!q u))∧RowKit.Below W.heap.size W w':=by
  intro W u hsz hsame
  have old:∀k,k<w.heap.size→W.heap[k]?=w.heap[k]? := fun k hk=>by
   rw[hsame k (by omega)]
   exact((Below.refl _ w).alloc (Nat.le_refl _) _).block k hk
  refine(callsIn_wide.1 (hq u W (#[.agg (bP u).toArray]++#[.pointer (some ⟨w.heap.size,0,none⟩)]) ?_ ?_)).mono ?_
  ·exact gO hg (by omega) old
  ·refine .cons (.agg (mf _ _ _ u)) (.cons (.ptrf (cs:=[fv]) (.one rfl ?_ .nil) ?_) .nil)
   ·rw[hfv]
    refine .func .nil (.cons (.ptrf (cd hpc) ?_) .nil)
    intro j x hj
    obtain⟨h1,h2⟩:=hpa j x hj
    have hlt:pc<w.heap.size:=h2
    exact⟨by rw[b9 (old _ hlt)];exact h1,Nat.lt_of_lt_of_le hlt (by omega)⟩
   ·intro j x hj
    have hc:W.heap[w.heap.size]?=some (.cells #[fv] 74 (0,0)):=by
     rw[hsame _ (Nat.lt_succ_self _)];exact heap_alloc_new w _
    refine⟨?_,show w.heap.size<W.heap.size by omega⟩
    rw[aw hc,Nat.zero_add]
    simpa using hj
  ·rintro e w' ⟨v,rfl,hb,hv⟩
   cases hv
   exact⟨rfl,hb⟩
 subst hfv;clear hpc hpa;cases a with
 |none =>
  obtain rfl:l=[]:=by
   rcases hS with h|⟨_,_,h,_⟩
   ·have:=cZ l;rw[←hcs,h]at this;exact List.eq_nil_of_length_eq_zero (by simp at this;omega)
   ·cases h
  have hc:=fun w=>AnyE.slices_Clone_nil Tryz.Ak 0 cap w;have hd:=Z0 none 0 (.func (.func 124) #[] #[.pointer (some ⟨w.heap.size,0,none⟩)]);clear hpred hS hcs hE hT;go_enter Tryz.func122,Tryz.ntmps122;go_wp2_with fail;refine(hc _).mono ?_;rintro e w' ⟨rfl,rfl⟩;go_wp2_with fail;refine(hd _).mono ?_;rintro e w' ⟨rfl,rfl⟩;go_wp2_with fail;go_ret;exact⟨_,_,rfl,(Below.refl _ w).alloc (Nat.le_refl _) _,.inl ⟨rfl,rfl,rfl⟩⟩
 |some ad =>
  have hclone:Calls Tryz.prog 123 #[.slice (some ad) l.length cap] (w.alloc (.cells #[(.func (.func f2) (Array.mk []) (Array.mk [.pointer (some ⟨pc,po,none⟩)]))] 74)) fun e w'=>∃v',e=.returned v'∧w'.ownsRow (w.alloc (.cells #[(.func (.func f2) (Array.mk []) (Array.mk [.pointer (some ⟨pc,po,none⟩)]))] 74)).heap.size 47 5 v' l.length (l.flatMap bP)∧v'≠.slice none 0 0∧RowKit.Below (w.alloc (.cells #[(.func (.func f2) (Array.mk []) (Array.mk [.pointer (some ⟨pc,po,none⟩)]))] 74)).heap.size (w.alloc (.cells #[(.func (.func f2) (Array.mk []) (Array.mk [.pointer (some ⟨pc,po,none⟩)]))] 74)) w':=by
   by_cases hl:l=[]
   ·subst hl;exact MN ad cap _
   ·obtain⟨c,o,hadr,hat,_⟩:=hS.resolve_left (fun e0=>hl (by
     have:=cZ l
     rw[←hcs,e0]at this
     exact List.eq_nil_of_length_eq_zero (by simp at this;omega)))
    simp only[A']at hadr;subst hadr;obtain⟨i0,z,a1,a2,a3,a4,a5⟩:=uZ;refine AnyE.slices_Clone Tryz.Ak i0 z 5 i0.bytes a1 a2 a3 rfl a4 (by omega) Tryz.sizeOf47 c o l.length cap (l.flatMap bP) _ (cZ l) ?_ ?_ ?_ (Dj l)
    ·unfold qI at hll;unfold maxLen;omega
    ·have:l.length*i0.bytes≤l.length*131072:=Nat.mul_le_mul_left _ a5;unfold qI at hll;omega
    ·intro j u hj;rw[←hcs]at hj;obtain⟨h1,h2⟩:=hat j u hj;have hlt:c<w.heap.size:=h2;rw[b9 (((Below.refl _ w).alloc (Nat.le_refl _) _).block c hlt)];exact h1
  clear hS hcs hE hT;have HP:=Lib.hid hpred;clear hpred;go_enter Tryz.func122,Tryz.ntmps122;go_wp2_with fail;refine hclone.mono ?_;rintro e w2 ⟨v',rfl,hown,hne,hb⟩;obtain⟨hlen,⟨rfl,_⟩|⟨gb,cap',cur,rfl,hgb,hcur,hn',hmax,hsz,htake⟩⟩:=hown
  ·exact absurd rfl hne
  have hrow:dq w2 gb cap' 47 l.toArray w2:=⟨rfl,rfl,rfl,Nat.le_refl _,fun _ _ _=>rfl,cur,hcur,hsz,fun j c hj hc=>by
   have hj':j<l.length:=by simpa using hj
   have h1:j*5+c<l.length*5:=by have:=(by omega);omega
   rw[←Array.getElem?_toList,←List.getElem?_take_of_lt h1,htake,eE l j c hj' hc]
   simp_all⟩
  have hdel:=adH (fun u => !q u) 124 #[.pointer (some ⟨w.heap.size,0,none⟩)] (fun _ _=>rfl) gb cap' l.toArray w2 (aB hcur) hrow (by simpa using hn') hmax (fun W dk u hW=>by
   have hs1:(w.alloc (.cells #[(.func (.func f2) (Array.mk []) (Array.mk [.pointer (some ⟨pc,po,none⟩)]))] 74)).heap.size=w.heap.size+1:=by simp
   refine HP.out W u (by have:=hb.size;have:=hW.size;omega) (fun k hk=>?_)
   rw[hW.other k (by have:=hb.size;omega) (by omega),hb.block k (by omega)])
  simp only[List.size_toArray,Bool.not_not]at hdel;have HD:=Lib.hid hdel;have HBW:=Lib.hid hb;have HG:=Lib.hid hgb;have HN:=Lib.hid hn';have HM:=Lib.hid hmax;clear hdel HP hrow hb hgb hn' hcur hsz htake hlen hne hmax hclone;go_wp2_with fail;refine HD.out.mono ?_;rintro e w3 ⟨rfl,hR⟩;have HR:=Lib.hid hR;clear hR;go_wp2_with fail;go_ret;have hR:=HR.out;have hb:=HBW.out;have hgb:=HG.out;have hs1:(w.alloc (.cells #[(.func (.func f2) (Array.mk []) (Array.mk [.pointer (some ⟨pc,po,none⟩)]))] 74)).heap.size=w.heap.size+1:=by simp
  have hw1:RowKit.Below w.heap.size w (w.alloc (.cells #[(.func (.func f2) (Array.mk []) (Array.mk [.pointer (some ⟨pc,po,none⟩)]))] 74)):=(Below.refl _ w).alloc (Nat.le_refl _) _
  have hbw:RowKit.Below w.heap.size w w3:=⟨hR.os.trans (hb.os.trans hw1.os),hR.tape.trans (hb.tape.trans hw1.tape),hR.output.trans (hb.output.trans hw1.output),by have:=hR.size;have:=hb.size;omega,fun k hk=>by
   rw[hR.other k (by have:=hb.size;omega) (by omega),hb.block k (by omega)]
   exact hw1.block k hk⟩
  have hfl:(l.filter q).length≤l.length:=by grind
  obtain⟨cur,k1,k2,k3⟩:=hR.row;exact⟨_,_,rfl,hbw,.inr ⟨gb,47,rfl,by omega,aB k1,Nat.le_trans hfl HN.out,HM.out,rfl,rfl,rfl,Nat.le_refl _,fun _ _ _=>rfl,cur,k1,k2,k3⟩⟩
end Go.Proofs
namespace Kz
open Go Go.RowKit Go.Proofs
set_option maxRecDepth 100000
set_option maxHeartbeats 4000000
noncomputable section
variable {g:Gh}{h:Hp}{w:World}
theorem MR.newRow (m:MR g h w){w':World}{b cap z n:Nat}{cells:Array Value}{ty:TypeId}(hb:RowKit.Below w.heap.size w w')(h1:w.heap.size≤b)(h2:w'.heap[b]?=some (.cells cells ty (0,0)))(h3:zK z cap cells.size ty)(h4:n≤cap)(h5:cap≤maxLen) :
  MR { g with fz:=fun c o=>g.fz c o∨(c=b∧o<n*Bh z),own:=g.own++[some (b,cap,z)] } { h with ag:=h.ag++[n] } w' ∧
   Le g h.ag w { g with fz:=fun c o=>g.fz c o∨(c=b∧o<n*Bh z),own:=g.own++[some (b,cap,z)] } (h.ag++[n]) w':=by
 obtain⟨m1,l1⟩:=m.grow hb
 have l2:Le g h.ag w' { g with fz:=fun c o=>g.fz c o∨(c=b∧o<n*Bh z),own:=g.own++[some (b,cap,z)] } (h.ag++[n]) w' :=
  ⟨rfl,Below.refl _ _,fun _ _ x=>.inl x,fun _ _ _ _ x=>x,fun _ _ x=>x,fun _ _ x=>x,fun _ x=>x,fun k q x=>⟨q,by
   grind,Nat.le_refl _,fun _=>by
   have:=(C'.1 x).1
   simp only
   rw[List.getElem?_append_left (by rw[m.dW];exact this)]⟩,fun _ _ _=>rfl⟩
 have hle:=l1.trans l2;have old:∀{c:Nat} {o:Obj},w.heap[c]?=some o→c≠b:=by grind
 have new:∀(k:Nat) x,(g.own++[some (b,cap,z)])[k]?=some x→g.own[k]?=some x∨(k=g.own.length∧x=some (b,cap,z)):=by
  intro i c' x;rcases Nat.lt_or_ge i g.own.length with h' |h'
  ·grind
  ·grind
 have tokOld:∀(k:Nat) x,h.ag[k]?=some x→(h.ag++[n])[k]?=some x:=by grind
 refine⟨⟨m1.base,fun c o x=>?_,m1.dN,fun i c l k1 k2=>?_,m1.xc,by simp[m.dW],fun k k1=>?_,fun k b' cap' z' k1=>?_,fun k k' b' c1 z1 c2 z2 k1 k2=>?_,m1.gT,fun l c r k1 k2=>?_,m1.xe,m1.defs,fun p hp=>(m.iH p hp).mono hle⟩,hle⟩
 ·rcases x with x|⟨rfl,_⟩
  ·exact m1.fC c o x
  ·exact aB h2
 ·obtain⟨a,f,cs,d',e⟩:=m1.var i c l k1 k2;obtain⟨_,_,_,d0,_⟩:=m.var i c l k1 k2;refine⟨a,fun o x=>?_,cs,d',e.mono l2⟩;simp_all
 ·rcases new k _ k1 with a|⟨_,e⟩
  ·obtain⟨n',hn'⟩:=m.jU k a;simp_all
  ·cases e
 ·rcases new k _ k1 with a|⟨e1,e2⟩
  ·obtain⟨q,cs,t,a1,a2,a3,a4,a5,a6,a7,a8⟩:=m1.tok k b' cap' z' a;obtain⟨_,_,_,_,_,_,_,d0,_⟩:=m.tok k b' cap' z' a;grind
  ·simp only[A',Prod.mk.injEq]at e2;obtain⟨rfl,rfl,rfl⟩:=e2;refine⟨n,cells,ty,?_,h4,h5,Nat.le_trans m.base h1,h2,h3,fun o x=>?_,fun hv=>?_⟩
   ·show(h.ag++[n])[k]?=_;rw[e1,m.dW];simp
   ·rcases x with x|⟨_,x⟩
    ·have:=m.fC _ _ x;omega
    ·exact x
   ·obtain⟨i,hi⟩:=List.getElem?_of_mem hv;have hi':=(C'.1 hi).1;obtain⟨_,_,_,d,_⟩:=m.var i _ _ hi (I' (by rw[←m.dN];exact hi'));simp_all
 ·have notown:∀(j c z':Nat),g.own[j]?≠some (some (b,c,z')):=fun j c z' x=>by obtain⟨_,_,_,_,_,_,_,d,_⟩:=m.tok j _ c z' x;simp_all
  rcases new k _ k1 with a|⟨e1,e2⟩<;>rcases new k' _ k2 with b' |⟨e3,e4⟩
  ·exact m1.xd k k' _ c1 z1 c2 z2 a b'
  ·simp_all
  ·simp_all
  ·omega
 ·obtain⟨a,R,f,d'⟩:=m1.loop l c r k1 k2;exact⟨a,R,f,d'.mono l2⟩
theorem MR.TZ (m:MR g h w){w':World}(hb:RowKit.Below w.heap.size w w') :
  MR { g with own:=g.own++[none] } { h with ag:=h.ag++[0] } w'∧Le g h.ag w { g with own:=g.own++[none] } (h.ag++[0]) w':=by obtain⟨m1,l1⟩:=m.grow hb;obtain⟨m2,l2⟩:=m1.kO;exact⟨m2,l1.trans l2⟩
end
theorem CS {f:Nat}{l l':M'}{tk:Tk}{f2 b:Nat}{p:Pos}{h:Hp}(hb:h.heap[b]?=some (bf (Pos.av p)))(hs:∀(w:World) (bw:Array Value),cN w→aI (cH w) [] w [.list .mv l .arg,.func f2 [] [.ptrf (Pos.av p)]] bw.toList→Calls Pz f bw w fun e w'=>∃a cap,e=.returned (.slice a l'.length cap)∧RowKit.Below w.heap.size w w'∧lQ w w' a cap l') :
  dz Pz f [.list .mv l tk,.func f2 [] [.ptr b 0]] h (.ret (.list .mv l' (.own h.ag.length)) { h with ag:=h.ag++[l'.length] }):=by
 intro g w bw m hr;have hr':aI (cH w) [] w [.list .mv l .arg,.func f2 [] [.ptrf (Pos.av p)]] bw.toList:=by
  obtain⟨bw⟩:=bw;cases hr with
  |cons q1 r1 =>
  cases r1 with
  |cons q2 r2 =>
  cases r2;cases q1 with
  |list hn hE hS hT hC =>
  rename_i a n cap cs;cases q2 with
  |func ha hb2 =>
  rename_i x y;obtain⟨x⟩:=x;obtain⟨y⟩:=y;cases ha;cases hb2 with
  |cons q3 r3 =>
  cases r3;cases q3 with
  |ptr hv =>
  rename_i c;obtain⟨_,_,cells,ty,hc,hcells⟩:=m.Te hv hb rfl
  refine .cons (.list (cs:=cs) hn (by rw[dH hE];exact iN _ _ _ _) (hS.imp id fun ⟨c',o',e1,e2,_⟩=>⟨c',o',e1,fun j x hj=>⟨(e2 j x hj).1,m.fC _ _ (e2 j x hj).2⟩,fun f=>absurd rfl f⟩) (fun k e=>by cases e) hC)
   (.cons (.func .nil (.cons (.ptrf (cs:=cells.toList) (cd hcells) fun j x hj=>⟨by rw[aw hc,Nat.zero_add];simpa using hj,aB hc⟩) .nil)) .nil)
 refine callsIn_wide.2 ((hs w bw m.u5 hr').mono ?_);rintro e w' ⟨a,cap,rfl,hbl,hx⟩;rcases hx with⟨rfl,rfl,rfl⟩|⟨b',ty,rfl,k1,k2,k3,k4,hrow⟩
 ·obtain⟨m1,l1⟩:=m.TZ hbl
  exact⟨_,_,rfl,⟨m1,l1,⟨rfl,rfl,rfl,fun _ _ _ x=>x,by grind,fun _ _ _ x=>x⟩⟩,
   .list (cs:=[]) rfl .nil (.inl rfl) (fun k ek=>by cases ek;exact⟨0,by simp,Nat.le_refl _,fun _=>⟨none,by simp[m.dW],rfl,rfl,rfl⟩⟩) (Nat.le_refl _)⟩
 ·obtain⟨cur,c1,c2,c3⟩:=hrow.row;obtain⟨m1,l1⟩:=m.newRow (z:=5) hbl k1 c1 ⟨c2,fun e=>by cases e⟩ k3 k4;refine⟨_,_,rfl,⟨m1,l1,⟨rfl,rfl,rfl,fun _ _ _ x=>x,by grind,fun _ _ _ x=>x⟩⟩,?_⟩;refine .list (cs:=l'.flatMap bP) rfl (iN _ _ _ _) (.inr ⟨b',0,rfl,fun j x hj=>?_,fun _=>Nat.le_trans m.base k1⟩) (fun k ek=>by cases ek;exact⟨l'.length,by simp,Nat.le_refl _,fun _=>⟨some (b',cap,5),by simp[m.dW],rfl,rfl,rfl⟩⟩) k3;have hjl:j<l'.length*5:=by rw[←cZ];exact(by grind)
  have hdm:j=j / 5*5+j%5:=by omega
  have hq5:j / 5<l'.length:=by omega
  have hfl:=eE l' (j / 5) (j%5) hq5 (by omega);rw[←hdm,hj]at hfl;refine⟨?_,.inr ⟨rfl,show 0+j<l'.length*5 by omega⟩⟩;rw[aw c1,Nat.zero_add];grind
def FK:List AV→Hp→Tr bL:=fun xs h=>match xs with
 | [.list .mv l _,.func f [] [.ptr b 0]]=>match h.heap[b]? with
  |some [.int .u8 v,.ints .u8 64 bd,.u64 pr,.ints .u8 12 pk,.int .u8 tn,.ints .i8 4 rk,.int .i8 ps,.ints .u8 2 ck,.int .i64 hf,.int .i64 fl] =>
   .guard (dD f ⟨v,bd,pr,pk,tn,rk,ps,ck,hf,fl⟩ l) (.ret (.ret (.list .mv (kept f ⟨v,bd,pr,pk,tn,rk,ps,ck,hf,fl⟩ l) (.own h.ag.length)) { h with ag:=h.ag++[(kept f ⟨v,bd,pr,pk,tn,rk,ps,ck,hf,fl⟩ l).length] }))
  |_=>.fail
 |_=>.fail
theorem sFK:dF Pz 122 FK:=by
 intro xs h res he;unfold FK at he;split at he
 ·rename_i l tk f b;split at he
  ·rename_i v bd pr pk tn rk ps ck hf fl hb;simp only[get_guard,aj,A']at he;obtain⟨h1,rfl⟩:=he;refine⟨?_,HY⟩;unfold dD at h1;simp only[E',decide_eq_true_eq]at h1;obtain⟨hl,h1⟩:=h1;unfold kept;cases hf3:f.beq 125 with
   |true =>rw[hf3]at h1;obtain rfl:=Nat.eq_of_beq_eq_true hf3;exact CS (p:=⟨v,bd,pr,pk,tn,rk,ps,ck,hf,fl⟩) hb (fun w bw hg hr=>VH _ _ _ l hl (fun m=>WW _ m (oF.1 h1 m)) w bw hg hr)
   |false =>rw[hf3]at h1;simp only[cond_false,E']at h1;obtain rfl:=Nat.eq_of_beq_eq_true h1.1;exact CS (p:=⟨v,bd,pr,pk,tn,rk,ps,ck,hf,fl⟩) hb (fun w bw hg hr=>VH _ _ _ l hl (fun m=>XO _ m (rz.1 h1.2 m)) w bw hg hr)
  ·simp at he
 ·simp at he
end Kz
namespace Kz
open Go Go.RowKit Go.Proofs
def asz:KT:=[]
def agb:ar:=bO Pz asz [] [] []
theorem ag4:aO agb:=af ae trivial trivial trivial
def V57:AV:=AV.agg [AV.nilfunc,AV.nilfunc,AV.nilfunc,AV.func 182 [] [],AV.func 186 [] [],AV.func 183 [] [],AV.func 184 [] [],AV.func 185 [] [],AV.func 187 [] []]
def afw:Bool:=true
theorem atX:cP agb 14 119 []=Tr.ret V57:=by kernel_rfl
theorem asX (_:afw=true):PS Pz 119 [] V57:=nK ag4 (by rw[atX];rfl)
def acU:GT:=g0 (.ret V57)
theorem amx:Sound Pz 119 acU:=vN (bH (asX rfl))
def anS:KT:=[(229,9,[(0,[0,1,4]),(1,[4])])]
def apd:ar:=bO Pz anS [] [] []
theorem agM:aO apd:=af ae trivial trivial trivial
def dn (a:Int)(b:Int):(Int×Int):=⟨(wr .u8 (1+a)),(b)⟩
def afb (a:Int)(b:Int):Bool:=true
theorem am0 (a:Int)(b:Int)(h:afb a b=true):PS Pz 229 [.int .u8 a,.int .u8 b] ((dR .u8 .u8).res (dn a b)):=pq14 agM h
def CD:GT:=g2 (dI .u8) (dI .u8) (fun a b=>.ret ((dR .u8 .u8).res (dn a b)))
theorem FM:Sound Pz 229 CD:=aP fun a b=>bH (am0 a b rfl)
def arL:KT:=[(182,13,[(0,[1,2]),(1,[1,2,7]),(2,[2]),(3,[2])])]
def ale:ar:=bO Pz arL [(121,EK),(229,CD)] [] []
theorem adK:aO ale:=af ae ⟨Iu,FM,trivial⟩ trivial trivial
def AP (a:Pos):(Int×Int):=(bif !oC a a.aa then⟨((dn (wr .u8 (1-a.aa)) 6).1),((dn (wr .u8 (1-a.aa)) 6).2)⟩else⟨(0),(0)⟩)
def Hk (a:Pos):Bool:=(sx a (a.aa)&&true)
theorem aoF (a:Pos)(h:Hk a=true):PS Pz 182 [Pos.av a] ((dR .u8 .u8).res (AP a)):=pq14 adK h
def ajJ:GT:=g1 aZ (fun a=>b7 (Hk a) ((dR .u8 .u8).res (AP a)))
theorem ap7:Sound Pz 182 ajJ:=aH fun a=>aA (aoF a)
def arV:KT:=[(183,6,[(0,[1,2]),(1,[2])]),(230,28,[(0,[1,2,3,6]),(1,[1,2,6,14,15,16]),(2,(1::2::6::(rn 14 4 []))),(3,[1,2,6,8,14,15,16]),(4,[1,2,6,8,14,15,16,22]),(5,[6]),(6,[1,2,6,14,15,16]),(7,[6])]),(231,9,[(0,[0,1]),(1,[3])])]
def aow:ar:=bO Pz arV [(229,CD)] [] []
theorem aiZ:aO aow:=af ae ⟨FM,trivial⟩ trivial trivial
def zt (a:Pos):(Int×Int):=(bif decide (a.au.getD (scale 1 (wr .u8 (1-a.aa))).toNat 0≥3)then⟨((dn (wr .u8 (1-a.aa)) 7).1),((dn (wr .u8 (1-a.aa)) 7).2)⟩else(bif decide (a.au.getD (scale 1 a.aa).toNat 0≥3)then⟨((dn a.aa 7).1),((dn a.aa 7).2)⟩else⟨(0),(0)⟩))
def B7 (a:Pos):Bool:=(decide (0≤wr .u8 (1-a.aa))&&decide (wr .u8 (1-a.aa) < ↑2)&&(bif decide (a.au.getD (scale 1 (wr .u8 (1-a.aa))).toNat 0≥3)then true else(decide (0≤a.aa)&&decide (a.aa < ↑2)&&true)))
theorem as6 (a:Pos)(h:B7 a=true):PS Pz 183 [Pos.av a] ((dR .u8 .u8).res (zt a)):=pq14 aiZ h
def ai0:GT:=g1 aZ (fun a=>b7 (B7 a) ((dR .u8 .u8).res (zt a)))
theorem arK:Sound Pz 183 ai0:=aH fun a=>aA (as6 a)
def alf:KT:=[(184,6,[(0,[1,2]),(1,[2])]),(230,28,[(0,[1,2,3,6]),(1,[1,2,6,14,15,16]),(2,(1::2::6::(rn 14 4 []))),(3,[1,2,6,8,14,15,16]),(4,[1,2,6,8,14,15,16,22]),(5,[6]),(6,[1,2,6,14,15,16]),(7,[6])]),(232,17,[(0,(0::1::(rn 11 5 []))),(1,(4::(rn 11 5 []))),(2,[3])])]
def amR:ar:=bO Pz alf [(145,j7),(229,CD)] [] []
theorem ag0:aO amR:=af ae ⟨lg,FM,trivial⟩ trivial trivial
def Ay (a:Pos):(Int×Int):=(bif decide (bg a (wr .u8 (1-a.aa)) 6≥0)then(bif lz BinOp.and .i64 (Int.fdiv 103481868288 (2^min (BitVec.ofInt 64 (bg a (wr .u8 (1-a.aa)) 6)).toNat 64)) 1==1 then⟨((dn (wr .u8 (1-a.aa)) 6).1),((dn (wr .u8 (1-a.aa)) 6).2)⟩else(bif decide (bg a a.aa 6≥0)then(bif lz BinOp.and .i64 (Int.fdiv 103481868288 (2^min (BitVec.ofInt 64 (bg a a.aa 6)).toNat 64)) 1==1 then⟨((dn a.aa 6).1),((dn a.aa 6).2)⟩else⟨(0),(0)⟩)else⟨(0),(0)⟩))else(bif decide (bg a a.aa 6≥0)then(bif lz BinOp.and .i64 (Int.fdiv 103481868288 (2^min (BitVec.ofInt 64 (bg a a.aa 6)).toNat 64)) 1==1 then⟨((dn a.aa 6).1),((dn a.aa 6).2)⟩else⟨(0),(0)⟩)else⟨(0),(0)⟩))
def Cz (a:Pos):Bool:=(iz a (wr .u8 (1-a.aa)) 6&&(bif decide (bg a (wr .u8 (1-a.aa)) 6≥0)then(bif lz BinOp.and .i64 (Int.fdiv 103481868288 (2^min (BitVec.ofInt 64 (bg a (wr .u8 (1-a.aa)) 6)).toNat 64)) 1==1 then true else(iz a (a.aa) 6&&true))else(iz a (a.aa) 6&&true)))
theorem ard (a:Pos)(h:Cz a=true):PS Pz 184 [Pos.av a] ((dR .u8 .u8).res (Ay a)):=pq14 ag0 h
def ahr:GT:=g1 aZ (fun a=>b7 (Cz a) ((dR .u8 .u8).res (Ay a)))
theorem akM:Sound Pz 184 ahr:=aH fun a=>aA (ard a)
def atq:KT:=[(185,8,[(0,[1,2]),(1,[2,5]),(2,[2]),(3,[2])])]
def an3:ar:=bO Pz atq [(147,gi),(229,CD)] [] []
theorem aid:aO an3:=af ae ⟨gy,FM,trivial⟩ trivial trivial
def AW (a:Pos):(Int×Int):=(bif aS a 0 0==0#64 then⟨((dn 1 8).1),((dn 1 8).2)⟩else⟨(0),(0)⟩)
def Ge (a:Pos):Bool:=(cF a 0 0&&true)
theorem asQ (a:Pos)(h:Ge a=true):PS Pz 185 [Pos.av a] ((dR .u8 .u8).res (AW a)):=pq14 aid h
def afO:GT:=g1 aZ (fun a=>b7 (Ge a) ((dR .u8 .u8).res (AW a)))
theorem aun:Sound Pz 185 afO:=aH fun a=>aA (asQ a)
def atz:KT:=[(186,24,[(0,[1,2]),(1,[1,2,10,11,12]),(2,(1::2::(rn 10 4 []))),(3,[1,2,4,10,11,12]),(4,[1,2,4,10,11,12,19]),(5,[2]),(6,[1,2,10,11,12]),(7,[2])])]
def asL:ar:=bO Pz atz [(147,gi),(229,CD)] [] []
theorem ajA:aO asL:=af ae ⟨gy,FM,trivial⟩ trivial trivial
def AQ (a:Pos):(Int×Int):=(bif aS a a.aa 0==0#64 then⟨((dn a.aa 8).1),((dn a.aa 8).2)⟩else(bif aS a (wr .u8 (1-a.aa)) 0==0#64 then⟨((dn (wr .u8 (1-a.aa)) 8).1),((dn (wr .u8 (1-a.aa)) 8).2)⟩else⟨(0),(0)⟩))
def Da (a:Pos):Bool:=(cF a (a.aa) 0&&(bif aS a a.aa 0==0#64 then true else(cF a (wr .u8 (1-a.aa)) 0&&true)))
theorem alX (a:Pos)(h:Da a=true):PS Pz 186 [Pos.av a] ((dR .u8 .u8).res (AQ a)):=pq14 ajA h
def ajR:GT:=g1 aZ (fun a=>b7 (Da a) ((dR .u8 .u8).res (AQ a)))
theorem alx:Sound Pz 186 ajR:=aH fun a=>aA (alX a)
def K64:KT:=[(64,37,[(0,(1::(rn 12 5 [28,29,30]))),(1,[1,17,28,29,30]),(2,[2]),(3,[1,3,28,29,30]),(4,[1,3,4,28,29,30]),(5,[1,3,4,5,28,29,30]),(6,[3,4,5,31]),(7,[4]),(8,[2])]),(122,9,[(0,[0,3]),(1,[4])]),(125,7,[(0,[1,2]),(1,[3])]),(127,7,[(0,[1,2]),(1,[3])]),(128,9,[(0,[0,1]),(1,[4])]),(110,19,[(0,[0,1]),(1,[0,1,7,8]),(2,[0,1,7,8,9]),(3,[0,1,5,7,8]),(4,[0,1,5,7,8,16]),(5,[4]),(6,[0,1,7,8]),(7,[4])])]
def adk:ar:=bO Pz K64 [(120,Fp),(66,DO),(47,Zu),(126,JJ),(121,EK)] [] [(122,Gm)]
theorem ZR:aO adk:=af ae ⟨Jz,FQ,s47,NJ,Iu,trivial⟩ trivial ⟨My,trivial⟩
def VI (p1:M')(p2:Int)(p3:Pos)(x:(Int)):St:=St.mk (.list .mv p1 .fresh::.func 127 [] [.ptr 0 0]::(an 5 (.int .i64 p2::.int .i64 x::(an 10 [])))) (Hp.mk [(pc p3 [])] [0] [] 0 0 0)
def WR (p1:M')(p2:Int)(p3:Pos):(Int) ⊕ (Int×Bool)→Out
 |(.inl (y))=>.ret (St.mk (an 4 (AV.int .i64 y::(an 14 []))) (Hp.mk [(pc p3 [])] [0] [] 0 0 0))
 |(.inr (y))=>.exit 0 (St.mk (AV.list ET.mv p1 Tk.fresh::AV.func 127 [] [AV.ptr 0 0]::(an 5 (AV.int .i64 p2::AV.int .i64 y.1::AV.bool y.2::(an 9 [])))) (Hp.mk [(pc p3 [])] [0] [] 0 0 0))
def ZV (p1:M')(p2:Int)(p3:Pos)(x:(Int)):aG (Int) ((Int) ⊕ (Int×Bool)):=(bif decide (x<p2)then(bif ig p3 (p1.getD x.toNat default)then(aG.out (.inl x))else(aG.go (wr .i64 (x+1))))else(aG.out (.inr ((x,decide (x<p2))))))
def Tx (p1:M')(p2:Int)(p3:Pos)(x:(Int)):Bool:=(bif decide (x<p2)then(decide (0≤x)&&decide (x<Int.ofNat p1.length)&&(xi p3 (p1.getD x.toNat default)&&true))else true)
def eh (p1:M')(p2:Int)(p3:Pos)(x:(Int)):Option ((Int) ⊕ (Int×Bool)):=cW (fun x=>bif Tx p1 p2 p3 x then ZV p1 p2 p3 x else .bad) many x
abbrev V6 {α:Type}(k:M'→Int→Pos→(Int)→α)(s:St):α:=wP s 0 fun q0=>k (tL (ET.mv) (tT s 0)) (tI (tT s 7)) q0 ((tI (tT s 8)))
theorem aeM (p1:M')(p2:Int)(p3:Pos)(x:(Int))(r:(Int) ⊕ (Int×Bool))(h:eh p1 p2 p3 x=some r):aC Pz (bc Pz 110 2) (VI p1 p2 p3 x) (WR p1 p2 p3 r):=aC.Be (m:=12) (fn:=110) ZR (V6 fun _ _ _ x=>some x) (fun o=>match o with | .ret s=>some (.inl (tI (tT s 4))) | .exit 0 s=>some (.inr ((tI (tT s 8)),(tB (tT s 9))))|_=>none) (fun r=>by cases r<;>rfl) (fun _=>by kernel_rfl) (fun _=>by kernel_rfl) (fun _=>by kernel_rfl) (fun _=>by kernel_rfl) many x r h
def Wu (b:Code)(s:St):Tr Out:=V6 (fun p1 p2 p3 x=>Bg b (bc Pz 110 2) s (VI p1 p2 p3 x) (eh p1 p2 p3 x) (WR p1 p2 p3)) s
theorem X9:∀b,aT Pz b (Wu b):=fun _ _ _ h=>fj (aeM _ _ _ _) h
def B64:ar:=bO Pz K64 [(120,Fp),(66,DO),(47,Zu),(126,JJ),(121,EK)] [(110,2,Wu)] [(122,Gm)]
theorem anr:aO B64:=af ae ⟨Jz,FQ,s47,NJ,Iu,trivial⟩ ⟨X9,trivial⟩ ⟨My,trivial⟩
def lH (a:Pos):M':=(bif pd a.variant a.aa then(bif !oC a a.aa then([])else(bif a.variant==4 then(bif cQ ((eh (kept 125 a (bR a)) (Int.ofNat (kept 125 a (bR a)).length) a 0).getD default)then(bif decide (gl ((eh (kept 125 a (bR a)) (Int.ofNat (kept 125 a (bR a)).length) a 0).getD default)≥0)then(kept 127 a (kept 125 a (bR a)))else(kept 125 a (bR a)))else(kept 125 a (bR a)))else(kept 125 a (bR a))))else(bif a.variant==4 then(bif cQ ((eh (kept 125 a (bR a)) (Int.ofNat (kept 125 a (bR a)).length) a 0).getD default)then(bif decide (gl ((eh (kept 125 a (bR a)) (Int.ofNat (kept 125 a (bR a)).length) a 0).getD default)≥0)then(kept 127 a (kept 125 a (bR a)))else(kept 125 a (bR a)))else(kept 125 a (bR a)))else(kept 125 a (bR a))))
def Dz (a:Pos):Bool:=(lV (a.variant) (a.aa)&&(bif pd a.variant a.aa then(sx a (a.aa)&&(bif !oC a a.aa then true else(wG a&&(dD 125 a (bR a)&&(bif a.variant==4 then((eh (kept 125 a (bR a)) (Int.ofNat (kept 125 a (bR a)).length) a 0).isSome&&bif cQ ((eh (kept 125 a (bR a)) (Int.ofNat (kept 125 a (bR a)).length) a 0).getD default)then(bif decide (gl ((eh (kept 125 a (bR a)) (Int.ofNat (kept 125 a (bR a)).length) a 0).getD default)≥0)then(dD 127 a (kept 125 a (bR a))&&true)else true)else true)else true)))))else(wG a&&(dD 125 a (bR a)&&(bif a.variant==4 then((eh (kept 125 a (bR a)) (Int.ofNat (kept 125 a (bR a)).length) a 0).isSome&&bif cQ ((eh (kept 125 a (bR a)) (Int.ofNat (kept 125 a (bR a)).length) a 0).getD default)then(bif decide (gl ((eh (kept 125 a (bR a)) (Int.ofNat (kept 125 a (bR a)).length) a 0).getD default)≥0)then(dD 127 a (kept 125 a (bR a))&&true)else true)else true)else true)))))
theorem P64 (a:Pos)(h:Dz a=true):PS Pz 64 [Pos.av a] ((dL .mv).res (lH a)):=pq14 anr h
def G64:GT:=g1 aZ (fun a=>b7 (Dz a) ((dL .mv).res (lH a)))
theorem s64:Sound Pz 64 G64:=aH fun a=>aA (P64 a)
def ahp:KT:=[(128,9,[(0,[0,1]),(1,[4])]),(187,40,[(0,[1,2,16]),(1,[1,2,3,16]),(2,[1,2,4,5,16]),(3,[1,2,4,5,13]),(4,[2]),(5,[1,2,4,19]),(6,[2]),(7,[1,2,22]),(8,[2]),(9,[1,2,26]),(10,[2]),(11,[1,2,6]),(12,[1,2,7]),(13,[2,37]),(14,[2]),(15,[2])]),(110,19,[(0,[0,1]),(1,[0,1,7,8]),(2,[0,1,7,8,9]),(3,[0,1,5,7,8]),(4,[0,1,5,7,8,16]),(5,[4]),(6,[0,1,7,8]),(7,[4])]),(233,8,[(0,[0,1]),(1,[3])]),(234,14,[(0,[1,2,10,11,12]),(1,[3])])]
def aam:ar:=bO Pz ahp [(64,G64),(145,j7),(229,CD)] [] []
theorem UI:aO aam:=af ae ⟨s64,lg,FM,trivial⟩ trivial trivial
def Nr (p1:M')(p2:Int)(p3:Pos)(p4:Int)(x:(Int)):St:=St.mk (.list .mv p1 .fresh::.func 234 [] [.ptr 2 0]::(an 5 (.int .i64 p2::.int .i64 x::(an 10 [])))) (Hp.mk [(pc p3 []),[.int .u8 0,.int .u8 0],[.int .i64 p4]] [] [] 0 0 0)
def Mp (p1:M')(p2:Int)(p3:Pos)(p4:Int):(Int) ⊕ (Int×Bool)→Out
 |(.inl (y))=>.ret (St.mk (an 4 (AV.int .i64 y::(an 14 []))) (Hp.mk [(pc p3 []),[AV.int .u8 0,AV.int .u8 0],[AV.int .i64 p4]] [] [] 0 0 0))
 |(.inr (y))=>.exit 0 (St.mk (AV.list ET.mv p1 Tk.fresh::AV.func 234 [] [AV.ptr 2 0]::(an 5 (AV.int .i64 p2::AV.int .i64 y.1::AV.bool y.2::(an 9 [])))) (Hp.mk [(pc p3 []),[AV.int .u8 0,AV.int .u8 0],[AV.int .i64 p4]] [] [] 0 0 0))
def G9 (p1:M')(p2:Int)(p3:Pos)(p4:Int)(x:(Int)):aG (Int) ((Int) ⊕ (Int×Bool)):=(bif decide (x<p2)then(bif wr .i64 (p1.getD x.toNat default).aD==p4 then(bif decide ((p1.getD x.toNat default).to≥56)then(aG.out (.inl x))else(aG.go (wr .i64 (x+1))))else(aG.go (wr .i64 (x+1))))else(aG.out (.inr ((x,decide (x<p2))))))
def B0 (p1:M')(p2:Int)(p3:Pos)(p4:Int)(x:(Int)):Bool:=(bif decide (x<p2)then(decide (0≤x)&&decide (x<Int.ofNat p1.length)&&true)else true)
def fp (p1:M')(p2:Int)(p3:Pos)(p4:Int)(x:(Int)):Option ((Int) ⊕ (Int×Bool)):=cW (fun x=>bif B0 p1 p2 p3 p4 x then G9 p1 p2 p3 p4 x else .bad) many x
abbrev Qd {α:Type}(k:M'→Int→Pos→Int→(Int)→α)(s:St):α:=wP s 0 fun q0=>k (tL (ET.mv) (tT s 0)) (tI (tT s 7)) q0 (tI (tH s 2 0)) ((tI (tT s 8)))
theorem acg (p1:M')(p2:Int)(p3:Pos)(p4:Int)(x:(Int))(r:(Int) ⊕ (Int×Bool))(h:fp p1 p2 p3 p4 x=some r):aC Pz (bc Pz 110 2) (Nr p1 p2 p3 p4 x) (Mp p1 p2 p3 p4 r):=aC.Be (m:=12) (fn:=110) UI (Qd fun _ _ _ _ x=>some x) (fun o=>match o with | .ret s=>some (.inl (tI (tT s 4))) | .exit 0 s=>some (.inr ((tI (tT s 8)),(tB (tT s 9))))|_=>none) (fun r=>by cases r<;>rfl) (fun _=>by kernel_rfl) (fun _=>by kernel_rfl) (fun _=>by kernel_rfl) (fun _=>by kernel_rfl) many x r h
def Lp (b:Code)(s:St):Tr Out:=Qd (fun p1 p2 p3 p4 x=>Bg b (bc Pz 110 2) s (Nr p1 p2 p3 p4 x) (fp p1 p2 p3 p4 x) (Mp p1 p2 p3 p4)) s
theorem RX:∀b,aT Pz b (Lp b):=fun _ _ _ h=>fj (acg _ _ _ _ _) h
def apb:ar:=bO Pz ahp [(64,G64),(145,j7),(229,CD)] [(110,2,Lp)] []
theorem ajt:aO apb:=af ae ⟨s64,lg,FM,trivial⟩ ⟨RX,trivial⟩ trivial
def AE (a:Pos):(Int×Int):=(bif decide (bg a 0 6≥56)then(bif decide (bg a 1 6≥56)then⟨(3),(6)⟩else(bif decide (bg a 1 6≥56)then⟨((dn 1 6).1),((dn 1 6).2)⟩else(bif !decide (bg a 0 6≥56)then⟨(0),(0)⟩else(bif a.aa==0 then⟨((dn 0 6).1),((dn 0 6).2)⟩else(bif cQ ((fp (lH a) (Int.ofNat (lH a).length) a (bg a 1 6) 0).getD default)then(bif decide (gl ((fp (lH a) (Int.ofNat (lH a).length) a (bg a 1 6) 0).getD default)≥0)then⟨(0),(0)⟩else⟨((dn 0 6).1),((dn 0 6).2)⟩)else⟨((dn 0 6).1),((dn 0 6).2)⟩)))))else(bif decide (bg a 1 6≥56)then⟨((dn 1 6).1),((dn 1 6).2)⟩else(bif !decide (bg a 0 6≥56)then⟨(0),(0)⟩else(bif a.aa==0 then⟨((dn 0 6).1),((dn 0 6).2)⟩else(bif cQ ((fp (lH a) (Int.ofNat (lH a).length) a (bg a 1 6) 0).getD default)then(bif decide (gl ((fp (lH a) (Int.ofNat (lH a).length) a (bg a 1 6) 0).getD default)≥0)then⟨(0),(0)⟩else⟨((dn 0 6).1),((dn 0 6).2)⟩)else⟨((dn 0 6).1),((dn 0 6).2)⟩)))))
def Cv (a:Pos):Bool:=(iz a 0 6&&(iz a 1 6&&(bif decide (bg a 0 6≥56)then(bif decide (bg a 1 6≥56)then true else(bif decide (bg a 1 6≥56)then true else(bif !decide (bg a 0 6≥56)then true else(bif a.aa==0 then true else(iz a 1 6&&(Dz a&&((fp (lH a) (Int.ofNat (lH a).length) a (bg a 1 6) 0).isSome&&bif cQ ((fp (lH a) (Int.ofNat (lH a).length) a (bg a 1 6) 0).getD default)then true else true)))))))else(bif decide (bg a 1 6≥56)then true else(bif !decide (bg a 0 6≥56)then true else(bif a.aa==0 then true else(iz a 1 6&&(Dz a&&((fp (lH a) (Int.ofNat (lH a).length) a (bg a 1 6) 0).isSome&&bif cQ ((fp (lH a) (Int.ofNat (lH a).length) a (bg a 1 6) 0).getD default)then true else true)))))))))
theorem aol (a:Pos)(h:Cv a=true):PS Pz 187 [Pos.av a] ((dR .u8 .u8).res (AE a)):=pq14 ajt h
def ajT:GT:=g1 aZ (fun a=>b7 (Cv a) ((dR .u8 .u8).res (AE a)))
theorem ati:Sound Pz 187 ajT:=aH fun a=>aA (aol a)
def K63:KT:=[(63,25,[(0,[1,2,8,9,10]),(1,[1,2,11]),(2,[2]),(3,[1,2,3]),(4,[1,2,3,19]),(5,[2]),(6,[2])])]
def B63:ar:=bO Pz K63 [(119,acU),(182,ajJ),(183,ai0),(184,ahr),(185,afO),(186,ajR),(187,ajT)] [] []
theorem akZ:aO B63:=af ae ⟨amx,ap7,arK,akM,aun,alx,ati,trivial⟩ trivial trivial
def uC (a:Pos):(Int×Int):=(bif decide (a.variant≥9)then⟨(0),(0)⟩else(bif decide (a.aa>1)then⟨(0),(0)⟩else(bif a.variant==Int.ofNat 0 then⟨(0),(0)⟩else(bif a.variant==Int.ofNat 1 then⟨(0),(0)⟩else(bif a.variant==Int.ofNat 2 then⟨(0),(0)⟩else(bif a.variant==Int.ofNat 3 then⟨((AP a).1),((AP a).2)⟩else(bif a.variant==Int.ofNat 4 then⟨((AQ a).1),((AQ a).2)⟩else(bif a.variant==Int.ofNat 5 then⟨((zt a).1),((zt a).2)⟩else(bif a.variant==Int.ofNat 6 then⟨((Ay a).1),((Ay a).2)⟩else(bif a.variant==Int.ofNat 7 then⟨((AW a).1),((AW a).2)⟩else⟨((AE a).1),((AE a).2)⟩))))))))))
def BT (a:Pos):Bool:=(bif decide (a.variant≥9)then true else(bif decide (a.aa>1)then true else(decide (0≤a.variant)&&decide (a.variant<Int.ofNat 9)&&(bif a.variant==Int.ofNat 0 then true else(bif a.variant==Int.ofNat 1 then true else(bif a.variant==Int.ofNat 2 then true else(bif a.variant==Int.ofNat 3 then(Hk a&&true)else(bif a.variant==Int.ofNat 4 then(Da a&&true)else(bif a.variant==Int.ofNat 5 then(B7 a&&true)else(bif a.variant==Int.ofNat 6 then(Cz a&&true)else(bif a.variant==Int.ofNat 7 then(Ge a&&true)else(a.variant==Int.ofNat 8&&(Cv a&&true)))))))))))))
theorem P63 (a:Pos)(h:BT a=true):PS Pz 63 [Pos.av a] ((dR .u8 .u8).res (uC a)):=pq14 akZ h
def G63:GT:=g1 aZ (fun a=>b7 (BT a) ((dR .u8 .u8).res (uC a)))
theorem s63:Sound Pz 63 G63:=aH fun a=>aA (P63 a)
def K30:KT:=[(30,9,[(0,[1]),(1,[1,6]),(2,[2]),(3,[2])])]
def B30:ar:=bO Pz K30 [(63,G63),(64,G64)] [] []
theorem as0:aO B30:=af ae ⟨s63,s64,trivial⟩ trivial trivial
def dh (a:Pos):M':=(bif(uC a).1 != 0 then([])else(lH a))
def Pf (a:Pos):Bool:=(BT a&&(bif(uC a).1 != 0 then true else(Dz a&&true)))
theorem P30 (a:Pos)(h:Pf a=true):PS Pz 30 [Pos.av a] ((dL .mv).res (dh a)):=pq14 as0 h
def G30:GT:=g1 aZ (fun a=>b7 (Pf a) ((dL .mv).res (dh a)))
theorem s30:Sound Pz 30 G30:=aH fun a=>aA (P30 a)
end Kz
namespace Kz
open Go
theorem xP (a b:Mv):(a.aD==b.aD&&(a.to==b.to&&(a.bU==b.bU&&(a.bh==b.bh&&(a.bZ==b.bZ&&true)))))=decide (a=b):=by rw[Bool.eq_iff_iff];cases a;cases b;simp
theorem Xm (l:M')(b:Mv)(hl:l.length≤1000000):∃r,gp l (l.length:Int) b 0=some r ∧
  match r with
  | .inl i=>0≤i∧i<l.length∧b∈l
  | .inr _=>b∉l:=by
 refine aQ (I:=fun x=>0≤x∧x≤(l.length:Int)∧b∉l.take x.toNat) (μ:=fun x=>((l.length:Int)-x).toNat) ?_ _ (by simp_all) (by simp;omega);rintro n ⟨h0,h1,h2⟩;by_cases hc:n<l.length
 ·have hlt:n.toNat<l.length:=by omega
  refine⟨aq (fun _=>ak (by simp[h0];exact hc) fun _=>rfl) fun _=>rfl,al (fun _=>?_) fun h=>absurd h (by simpa using hc)⟩;have he:cg BinOp.eql (b.aD==(l.getD n.toNat default).aD&&(b.to==(l.getD n.toNat default).to&&(b.bU==(l.getD n.toNat default).bU&&(b.bh==(l.getD n.toNat default).bh&&(b.bZ==(l.getD n.toNat default).bZ&&true)))))=decide (b=l.getD n.toNat default):=xP b _;rw[he];refine al (fun h=>?_) fun h=>?_
  ·have h:b=l.getD n.toNat default:=by simpa using h
   exact⟨h0,hc,by rw[h];exact eD hlt⟩
  ·have h:¬b=l.getD n.toNat default:=by simpa using h
   have hw:wr .i64 (n+1)=n+1:=aF (by omega) (by omega);rw[hw];refine⟨⟨by omega,by omega,?_⟩,by dsimp only;omega⟩;rw[show(n+1).toNat=n.toNat+1 by omega,List.take_succ_eq_append_getElem hlt];grind
 ·refine⟨aq (fun h=>absurd h (by simpa using hc)) fun _=>rfl,al (fun h=>absurd h (by simpa using hc)) fun _=>?_⟩;show b∉l;rw[List.take_of_length_le (by omega)]at h2;exact h2
theorem t129 {l:M'}{b:Mv}(hl:l.length≤1000000):Hd l b=true:=by refine ak (aJ (Xm l b hl)).1 fun _=>?_;simp_all
theorem t65 {l:M'}{b:Mv}(hl:l.length≤1000000):CM l b=true:=ak (t129 hl) fun _=>rfl
theorem mF {l:M'}{b:Mv}(hl:l.length≤1000000):Kf l b=decide (b∈l):=by
 have h:=(aJ (Xm l b hl)).2;unfold Kf Vh;revert h;show(match (gp l (l.length:Int) b 0).getD default with | .inl i=>0≤i∧i<(l.length:Int)∧b∈l | .inr _=>b∉l)→decide ((bif cQ ((gp l (l.length:Int) b 0).getD default)then gl ((gp l (l.length:Int) b 0).getD default)else -1)≥0)=decide (b∈l);generalize (gp l (l.length:Int) b 0).getD default=r;intro h;cases r with
 |inl i =>have h':0≤i∧i<(l.length:Int)∧b∈l:=h;have h3:=h'.2.2;simp[cQ,gl,h'.1,h3]
 |inr y =>have h':b∉l:=h;simp[cQ,h']
theorem t67 {p:Pos}(hv:0≤p.variant)(m:Mv):J2 p m=true:=by
 have hl:=hY hv;unfold J2;refine ak (t134 p) fun _=>aq (fun _=>rfl) fun _=>ak (t131 hv) fun _=>ak (t65 (by omega)) fun _=>aq (fun _=>rfl) fun h=>aq (fun _=>rfl) fun _=>ak ?_ fun _=>rfl;rw[mF (by omega)]at h;have hm:m∈ep p:=by simpa using h
 obtain⟨_,f,t,h1,h2,h3,_⟩:=gC hv hm;rw[h3];simp;omega
theorem t47 {p:Pos}(hv:0≤p.variant)(m:Mv):xi p m=true:=ak (t67 hv m) fun _=>rfl
theorem t192 {a:Int}(ha:0≤a):DH a=true:=by unfold DH;grind
theorem t115 {a:Int}(ha:0≤a):Cj a=true:=by unfold Cj;grind
theorem pB {t:Int}(h0:0≤t)(h1:t≤1):cC t=56*t:=by unfold cC;rw[aF (n:=t) (by omega) (by omega),aF (by omega) (by omega)]
theorem aaw (p1:Pos)(p2:List Int)(p3:Pos)(p4 p5:BitVec 64)(p6 p7 x:Int)(hx : -200≤x)(hx2:x≤201)(h6:p6≤200)(h7:p7≤200):(eQ p1 p2 p3 p4 p5 p6 p7 x).isSome=true:=by
 refine(aJ (Q:=fun _=>True) (aQ (I:=fun x => -200≤x∧x≤201) (μ:=fun x=>(201-x).toNat) ?_ x ⟨hx,hx2⟩ (by omega))).1;rintro n ⟨h0,h1⟩;refine⟨rfl,al (fun hc=>al (fun _=>trivial) fun _=>?_) fun hc=>trivial⟩;have hc:n≤if p7>p6 then p7 else p6:=by simpa using hc
 have hn:n≤200:=by split at hc<;>omega
 rw[aF (n:=n+1) (by omega) (by omega)];exact⟨⟨by omega,by omega⟩,by dsimp only;omega⟩
theorem abG (p1:Pos)(p2:List Int)(p3:Pos)(p4 p5:BitVec 64)(p6 p7 p8 p9 x:Int)(hx : -200≤x)(hx2:x≤201)(h6:p8≤200)(h7:p9≤200):(eR p1 p2 p3 p4 p5 p6 p7 p8 p9 x).isSome=true:=by
 refine(aJ (Q:=fun _=>True) (aQ (I:=fun x => -200≤x∧x≤201) (μ:=fun x=>(201-x).toNat) ?_ x ⟨hx,hx2⟩ (by omega))).1;rintro n ⟨h0,h1⟩;refine⟨rfl,al (fun hc=>al (fun _=>trivial) fun _=>?_) fun hc=>trivial⟩;have hc:n≤if p9>p8 then p9 else p8:=by simpa using hc
 have hn:n≤200:=by split at hc<;>omega
 rw[aF (n:=n+1) (by omega) (by omega)];exact⟨⟨by omega,by omega⟩,by dsimp only;omega⟩
theorem Z6 (p1:Pos)(p2:List Int)(p3:Pos)(p4 p5:BitVec 64)(p6 p7 p8 p9 p10 p11 x:Int)(hx : -200≤x)(hx2:x≤201)(h6:p10≤200)(h7:p11≤200):(eU p1 p2 p3 p4 p5 p6 p7 p8 p9 p10 p11 x).isSome=true:=by
 refine(aJ (Q:=fun _=>True) (aQ (I:=fun x => -200≤x∧x≤201) (μ:=fun x=>(201-x).toNat) ?_ x ⟨hx,hx2⟩ (by omega))).1;rintro n ⟨h0,h1⟩;refine⟨?_,al (fun hc=>?_) fun hc=>trivial⟩
 ·unfold pR;repeat' (first|with_reducible rfl|with_reducible exact t199 _|with_reducible exact t205 _ _ _|refine ak ?_ (fun _=>?_)|refine aq (fun _=>?_) (fun _=>?_))
 ·have hc:n≤if p11>p10 then p11 else p10:=by simpa using hc
  have hn:n≤200:=by split at hc<;>omega
  rw[aF (n:=n+1) (by omega) (by omega)];have go:xf (fun x:Int => -200≤x∧x≤201) (fun _:Int ⊕ (Int×Bool)=>True) (fun x=>(201-x).toNat) (201-n).toNat (.go (n+1)):=⟨⟨by omega,by omega⟩,by dsimp only;omega⟩;exact al (fun _=>al (fun _=>go) fun _=>al (fun _=>trivial) fun _=>go) fun _=>al (fun _=>trivial) fun _=>go
theorem dm {l:List Int}{a b d:Int}(h:∀x∈l,a≤x∧x≤b)(hd:a≤d∧d≤b)(i:Nat):a≤l.getD i d∧l.getD i d≤b:=by
 by_cases hi:i<l.length
 ·exact h _ (eD hi)
 simp_all
noncomputable section
variable {p:Pos}(hp:ax p)(ht:p.aa≤1)
include hp ht
theorem GJ {b c:Int}:0≤(cD p b c).1∧(cD p b c).1<64:=by
 have hr:=dm hp.r0 (d:=0) (by omega) (scale 2 p.aa+scale 1 c).toNat;have h0:=hp.t0;unfold cD;rw[pB h0 ht];generalize p.ao.getD (scale 2 p.aa+scale 1 c).toNat 0=r at hr;rw[aF (n:=r) (by omega) (by omega)];refine al (P:=fun x:Int×Bool=>0≤x.1∧x.1<64) (fun _=>by simp) fun h1=>al (P:=fun x:Int×Bool=>0≤x.1∧x.1<64) (fun _=>by simp) fun h2=>?_;have h1:0≤r:=by simpa using h1
 have h2:r≤7:=by simpa using h2
 rw[aF (n:=56*p.aa+r) (by omega) (by omega)];grind
theorem t238 {b c:Int}(hc:c=0∨c=1):BX p b c=true:=by
 have hr:=dm hp.r0 (d:=0) (by omega) (scale 2 p.aa+scale 1 c).toNat;have h0:=hp.t0;unfold BX;rw[pB h0 ht];generalize p.ao.getD (scale 2 p.aa+scale 1 c).toNat 0=r at hr;rw[aF (n:=r) (by omega) (by omega)];refine ak (by simp;omega) fun _=>ak (by simp;omega) fun _=>aq (fun _=>rfl) fun h1=>aq (fun _=>rfl) fun h2=>ak ?_ fun _=>rfl;have h1:0≤r:=by simpa using h1
 have h2:r≤7:=by simpa using h2
 rw[aF (n:=56*p.aa+r) (by omega) (by omega)];simp;omega
theorem t191 {b c:Int}(hb0:0≤b)(hb1:b<64)(hc:c=0∨c=1):pA p b c=true:=by
 have h0:=hp.t0;have hr:=GJ hp ht (b:=b) (c:=c);have g0:0≤(List.take 2 (List.drop (c.toNat*2) (li [6,5,2,3]))).getD 0 0∧(List.take 2 (List.drop (c.toNat*2) (li [6,5,2,3]))).getD 0 0≤6:=by rcases hc with rfl|rfl<;>decide
 have g1:0≤(List.take 2 (List.drop (c.toNat*2) (li [6,5,2,3]))).getD 1 0∧(List.take 2 (List.drop (c.toNat*2) (li [6,5,2,3]))).getD 1 0≤6:=by rcases hc with rfl|rfl<;>decide
 unfold pA;rw[pB h0 ht];generalize (List.take 2 (List.drop (c.toNat*2) (li [6,5,2,3]))).getD 0 0=x0 at g0;generalize (List.take 2 (List.drop (c.toNat*2) (li [6,5,2,3]))).getD 1 0=x1 at g1;have w0:wr .i64 (56*p.aa+x0)=56*p.aa+x0:=aF (by omega) (by omega);have w1:wr .i64 (56*p.aa+x1)=56*p.aa+x1:=aF (by omega) (by omega);rw[w0,w1]
 refine ak (t238 hp ht hc) fun _=>aq (fun _=>rfl) fun _=>ak (by grind) fun _=>ak (by simp;omega) fun _=>ak (by simp;omega) fun _=>ak (t193 _) fun _=>ak (t147 _ _ _) fun _ =>
  ak (aaw _ _ _ _ _ _ _ _ ?_ ?_ ?_ ?_) fun _=>aq (fun _=>rfl) fun _=>ak (abG _ _ _ _ _ _ _ _ _ _ ?_ ?_ ?_ ?_) fun _=>aq (fun _=>rfl) fun _=>ak (Z6 _ _ _ _ _ _ _ _ _ _ _ _ ?_ ?_ ?_ ?_) (by simp_all)
 all_goals (try split)<;>omega
omit ht in
theorem t132:C0 p=true:=by
 unfold C0;refine aq (fun _=>rfl) fun h=>?_;have ht:p.aa≤1:=by simpa using h
 have hk:=fH p p.aa 6;refine ak (t115 hp.v0) fun _=>aq (fun _=>rfl) fun _=>ak (t145 _ _ _) fun _=>aq (fun _=>rfl) fun hk0=>aq (fun _=>rfl) fun _=>?_;have hk0:0≤bg p p.aa 6:=by simpa using hk0
 have a1:pA p (bg p p.aa 6) 1=true:=t191 hp ht hk0 hk.2 (.inr rfl);have a0:pA p (bg p p.aa 6) 0=true:=t191 hp ht hk0 hk.2 (.inl rfl);simp_all
end
noncomputable section
variable {p:Pos}(hp:ax p)
include hp
theorem vX (ht:p.aa≤1){b c:Int}(hb0:0≤b)(hb1:b<64):(dJ p b c).2=true→(dJ p b c).1.aD=b∧0≤(dJ p b c).1.to∧(dJ p b c).1.to<64∧(dJ p b c).1.bZ=true∧(dJ p b c).1.bh=0∧(dJ p b c).1.bU=0∧(dJ p b c).1.to=(cD p b c).1∧(cD p b c).2=true:=by have hr:=GJ hp ht (b:=b) (c:=c);have wb:wr .i8 b=b:=Kk (by omega) (by omega);have wr':wr .i8 (cD p b c).1=(cD p b c).1:=Kk (by omega) (by omega);have ci:=fun {d:Bool} {x y:Mv×Bool} => @al (Mv×Bool) (fun x=>x.2=true→x.1.aD=b∧0≤x.1.to∧x.1.to<64∧x.1.bZ=true∧x.1.bh=0∧x.1.bU=0∧x.1.to=(cD p b c).1∧(cD p b c).2=true) d x y;show(fun x:Mv×Bool=>x.2=true→x.1.aD=b∧0≤x.1.to∧x.1.to<64∧x.1.bZ=true∧x.1.bh=0∧x.1.bU=0∧x.1.to=(cD p b c).1∧(cD p b c).2=true) (dJ p b c);unfold dJ;rw[wb,wr'];refine ci (fun _ h=>by cases h) fun h1=>ci (fun _ h=>by cases h) fun _=>ci (fun _ h=>by cases h) fun _=>ci (fun _ h=>by cases h) fun _ _=>?_;grind
theorem uD:(fc p).length≤2:=by unfold fc;grind
theorem uN {m:Mv}(h:m∈fc p):p.aa≤1∧0≤m.aD∧m.aD<64∧0≤m.to∧m.to<64∧m.bZ=true∧m.bh=0∧m.bU=0:=by
 revert h;unfold fc;have hk:=fH p p.aa 6;refine al (P:=fun l:M'=>m∈l→_) (fun _ h=>by cases h) fun h=>?_;have ht:p.aa≤1:=by simpa using h
 refine al (P:=fun l:M'=>m∈l→_) (fun _ h=>by cases h) fun _=>al (P:=fun l:M'=>m∈l→_) (fun _ h=>by cases h) fun hk0=>al (P:=fun l:M'=>m∈l→_) (fun _ h=>by cases h) fun _=>?_;have hk0:0≤bg p p.aa 6:=by simpa using hk0
 have key:∀c,(dJ p (bg p p.aa 6) c).2=true→m=(dJ p (bg p p.aa 6) c).1→p.aa≤1∧0≤m.aD∧m.aD<64∧0≤m.to∧m.to<64∧m.bZ=true∧m.bh=0∧m.bU=0:=by intro c h1 h2;obtain⟨a1,a2,a3,a4,a5,a6,_⟩:=vX hp ht hk0 hk.2 h1;rw[h2];exact(by simp_all)
 grind
end
theorem MW (k p2:Int)(l:List Int)(p5:Pos)(p6:Nat)(out:M')(hl:l.length≤64)(hin:∀s∈l,0≤s∧s<64)(ho:out.length≤1000000) :
  ∃r,lh k p2 l (Int.ofNat l.length) p5 p6 (out,0)=some r∧r.1=out++l.flatMap fun s=>[⟨s,s,0,k,false⟩]:=by
 refine aQ (I:=fun x=>0≤x.2∧x.2≤(l.length:Int)∧x.1=out++(l.take x.2.toNat).flatMap (fun s=>[⟨s,s,0,k,false⟩])) (μ:=fun x=>((l.length:Int)-x.2).toNat) ?_ _ (by simp_all) (by simp;omega);rintro⟨o,n⟩ ⟨h0,h1,h2⟩;simp only at h0 h1 h2;have hlen:o.length≤out.length+64:=by
  have:=iD (l.take n.toNat) (fun s=>[(⟨s,s,0,k,false⟩:Mv)]) 1 fun _ _=>by simp
  have h5:(l.take n.toNat).length≤64:=by rw[List.length_take];omega
  rw[h2,List.length_append];omega
 by_cases hc:n<l.length
 ·have hf:=hin _ (eD (d:=default) (show n.toNat<l.length by omega));refine⟨aq (fun _=>ak (by simp[h0];omega) fun _=>ak (by simp;omega) fun _=>rfl) fun _=>rfl,al (fun _=>?_) fun h=>absurd h (by simpa using hc)⟩;have hw:wr .i64 (n+1)=n+1:=aF (by omega) (by omega);rw[hw,Kk (n:=l.getD n.toNat default) (by omega) (by omega)];refine⟨⟨by simp;omega,by simp;omega,?_⟩,by simp;omega⟩;simp only;rw[show(n+1).toNat=n.toNat+1 by omega,j6 default _ (by omega),h2,List.append_assoc]
 ·refine⟨aq (fun h=>absurd h (by simpa using hc)) fun _=>rfl,al (fun h=>absurd h (by simpa using hc)) fun _=>?_⟩;show o=_;rw[h2,List.take_of_length_le (by omega)]
def fy (p:Pos)(k:Int):M' :=
 bif p.ah.getD (scale 6 p.aa+scale 1 k).toNat 0==0 then[]else bif k==1 then(gF (~~~bm p&&&72057594037927680#64) 64).flatMap fun s=>[⟨s,s,0,k,false⟩]else(gF (~~~bm p) 64).flatMap fun s=>[⟨s,s,0,k,false⟩]
theorem xM (p:Pos)(k:Int):(fy p k).length≤64:=by
 unfold fy;refine al (P:=fun l:M'=>l.length≤64) (fun _=>by simp) fun _=>al (P:=fun l:M'=>l.length≤64) (fun _=>?_) fun _=>?_
 ·have:=dC (~~~bm p&&&72057594037927680#64) 64;have h2:=iD (gF (~~~bm p&&&72057594037927680#64) 64) (fun s=>[(⟨s,s,0,k,false⟩:Mv)]) 1 fun _ _=>by simp
  omega
 ·have:=dC (~~~bm p) 64;have h2:=iD (gF (~~~bm p) 64) (fun s=>[(⟨s,s,0,k,false⟩:Mv)]) 1 fun _ _=>by simp
  omega
theorem L2 {p:Pos}(h0:0≤p.aa)(h1:p.aa≤1):∃r,pq p 0 ([],0)=some r∧r.1=[1,2,3,4,5].flatMap (fy p):=by
 refine aQ (I:=fun x=>0≤x.2∧x.2≤5∧x.1=(([1,2,3,4,5]:List Int).take x.2.toNat).flatMap (fy p)∧(x.1.length:Int)≤64*x.2) (μ:=fun x=>(5-x.2).toNat) ?_ _ (by simp_all) (by simp);rintro⟨o,n⟩ ⟨g0,g1,g2,g3⟩;simp only at g0 g1 g2 g3;by_cases hc:n<5
 ·have hw:wr .i64 (n+1)=n+1:=aF (by omega) (by omega);have hw8:wr .u8 (n+1)=n+1:=kD (by omega) (by omega);have s1:=dC (~~~bm p&&&72057594037927680#64) 64;have s2:=dC (~~~bm p) 64;have d1:=aJ (MW (n+1) n (gF (~~~bm p&&&72057594037927680#64) 64) p 0 o s1 (fun _ h=>jO h) (by omega));have d2:=aJ (MW (n+1) n (gF (~~~bm p) 64) p 0 o s2 (fun _ h=>jO h) (by omega));have e:([1,2,3,4,5]:List Int).getD n.toNat 0=n+1:=by
   have:n=0∨n=1∨n=2∨n=3∨n=4:=by omega
   rcases this with rfl|rfl|rfl|rfl|rfl<;>rfl
  have hs:xf (fun x:M'×Int=>0≤x.2∧x.2≤5∧x.1=(([1,2,3,4,5]:List Int).take x.2.toNat).flatMap (fy p)∧x.1.length≤64*x.2) (fun r:M'×Int×Bool=>r.1=[1,2,3,4,5].flatMap (fy p)) (fun x=>(5-x.2).toNat) (5-n).toNat (.go (o++fy p (n+1),n+1)):=by
   have hq:=xM p (n+1);refine⟨⟨by simp;omega,by simp;omega,?_,?_⟩,by simp;omega⟩
   ·simp only;rw[show(n+1).toNat=n.toNat+1 by omega,j6 0 _ (by simp;omega),g2,e]
   ·grind
  refine⟨aq (fun _=>?_) fun _=>rfl,al (fun _=>?_) (by simp_all)⟩
  ·rw[hw,hw8,dy,dy];refine ak (by simp;omega) fun _=>ak (by simp;omega) fun _=>aq (fun _=>rfl) fun _=>ak (t193 _) fun _=>aq (fun _=>ak (t142 _) (by simp_all)) fun _=>ak (t142 _) (by simp_all)
  ·rw[hw,hw8,dy,dy];refine al (fun h=>?_) fun h=>al (fun h'=>?_) fun h'=>?_
   ·have e:fy p (n+1)=[]:=by unfold fy;rw[h];rfl
    simp_all
   ·have e:fy p (n+1)=(gF (~~~bm p&&&72057594037927680#64) 64).flatMap fun s=>[⟨s,s,0,n+1,false⟩]:=by unfold fy;rw[h,h'];rfl
    simp_all
   ·have e:fy p (n+1)=(gF (~~~bm p) 64).flatMap fun s=>[⟨s,s,0,n+1,false⟩]:=by unfold fy;rw[h,h'];rfl
    simp_all
 ·refine⟨aq (fun h=>absurd h (by simpa using hc)) fun _=>rfl,al (fun h=>absurd h (by simpa using hc)) fun _=>?_⟩;have:n=5:=by omega
  subst this;exact g2
theorem t133 {p:Pos}(hv:0≤p.variant)(h0:0≤p.aa):BU p=true:=by unfold BU;refine aq (fun _=>rfl) fun h=>ak (t192 hv) fun _=>aq (fun _=>rfl) fun _=>ak ?_ fun _=>rfl;exact(aJ (L2 h0 (by simpa using h))).1
theorem tv {p:Pos}(h0:0≤p.aa):nQ p=bif decide (p.aa>1)then[]else bif !sV p.variant then[]else[1,2,3,4,5].flatMap (fy p):=by
 unfold nQ;by_cases h:p.aa≤1
 ·rw[(aJ (L2 h0 h)).2]
 simp_all
theorem wh {p:Pos}(h0:0≤p.aa):(nQ p).length≤320:=by rw[tv h0];refine al (P:=fun l:M'=>l.length≤320) (fun _=>by simp) fun _=>al (P:=fun l:M'=>l.length≤320) (fun _=>by simp) fun _=>?_;have:=iD [1,2,3,4,5] (fy p) 64 fun k _=>xM p k;simpa using this
theorem mG {p:Pos}(h0:0≤p.aa){m:Mv}(h:m∈nQ p):p.aa≤1∧sV p.variant=true∧m.aD=m.to∧0≤m.to∧m.to<64∧m.bZ=false∧1≤m.bh∧m.bh≤5∧m.bU=0:=by
 rw[tv h0]at h;revert h;refine al (P:=fun l:M'=>m∈l→_) (fun _ h=>by cases h) fun h1=>al (P:=fun l:M'=>m∈l→_) (fun _ h=>by cases h) fun h2 h=>?_;obtain⟨k,hk,hm⟩:=List.mem_flatMap.1 h;have hk':1≤k∧k≤5:=by simp at hk;omega
 have key:∀b:BitVec 64,m∈(gF b 64).flatMap (fun s=>[(⟨s,s,0,k,false⟩:Mv)])→m.aD=m.to∧0≤m.to∧m.to<64∧m.bZ=false∧1≤m.bh∧m.bh≤5∧m.bU=0:=by intro b hb;obtain⟨s,hs,hm⟩:=List.mem_flatMap.1 hb;have:=jO hs;rw[List.mem_singleton.1 hm];exact(by simp_all)
 refine⟨by simpa using h1,by simpa using h2,?_⟩;revert hm;unfold fy;grind
theorem oJ (p:Pos):bR p=ep p++fc p++nQ p:=by unfold bR;rw[List.nil_append]
theorem kJ {p:Pos}(hp:ax p):(bR p).length≤20802:=by have a:=hY hp.v0;have b:=uD hp;have c:=wh hp.t0;rw[oJ,List.length_append,List.length_append];omega
theorem t66 {p:Pos}(hp:ax p):wG p=true:=by have a:=hY hp.v0;have b:=uD hp;have c:=wh hp.t0;unfold wG;rw[aF (n:=0+Int.ofNat (ep p).length) (by simp_all) (by grind)];rw[aF (n:=0+Int.ofNat (ep p).length+Int.ofNat (fc p).length) (by grind) (by grind)];rw[aF (n:=0+Int.ofNat (ep p).length+Int.ofNat (fc p).length+Int.ofNat (nQ p).length) (by grind) (by grind)];refine ak (t131 hp.v0) fun _=>ak (t132 hp) fun _=>ak (t133 hp.v0 hp.t0) fun _=>?_;simp;omega
theorem Ux:∀f t:Fin 64,(eW 0 f.val).getLsbD t.val=true→8≤t.val:=by decide +kernel
theorem Ub:∀f t:Fin 64,(eW 1 f.val).getLsbD t.val=true→t.val<56:=by decide +kernel
theorem nL {x:Nat}{i:Nat}(hi:i<64):(1#64 <<< x).getLsbD i=decide (i=x):=by grind
theorem fw {n:Int}(h0:0≤n)(h1:n<18446744073709551616):(BitVec.ofInt 64 n).toNat=n.toNat:=by grind
theorem Qv {c k v:Int}(h:dv c k v=true):k=0∨di v=k:=by unfold dv at h;simp_all
theorem IP {p:Pos}(hp:ax p)(ht:p.aa≤1){x:Pos×BitVec 64×BitVec 64}(hx:x.1=p){f t:Nat}(hf:f<64)(h1:t<64)(hm:(f:Int).tmod 8≠(t:Int).tmod 8)(hb:(CE x f).getLsbD t=true):(eW p.aa f).getLsbD t=true:=by
 have h0:=hp.t0;have hne:f%8≠t%8:=by intro e;apply hm;rw[Int.tmod_eq_emod_of_nonneg (by omega),Int.tmod_eq_emod_of_nonneg (by omega)];omega
 have a1:∀n:Int,(n=f+8∨n=f-8∨n=f+16∨n=f-16)→(1#64 <<< (BitVec.ofInt 64 n).toNat).getLsbD t=false:=by intro n hn;rw[nL h1];simp only[decide_eq_false_iff_not];rw[BitVec.toNat_ofInt];omega
 have w:∀s:Int,-100≤s→s≤100→(dA p.aa s=s+8∨dA p.aa s=s-8):=by intro s g0 g1;unfold dA;rw[aF (n:=s-8) (by omega) (by omega),aF (n:=s+8) (by omega) (by omega)];exact(by grind)
 have b1:=w f (by omega) (by omega);have b2:=w (dA p.aa f) (by omega) (by omega);have c1:=a1 (dA p.aa f) (by omega);have c2:(1#64 <<< (BitVec.ofInt 64 (dA p.aa (dA p.aa f))).toNat).getLsbD t=false:=by
  by_cases e:dA p.aa (dA p.aa f)=f
  ·rw[e,nL h1];simp only[decide_eq_false_iff_not];rw[BitVec.toNat_ofInt];omega
  ·exact a1 _ (by omega)
 revert hb;unfold CE;grind
theorem EB {p:Pos}(hp:ax p)(m:Mv) : -1≤bC p m∧bC p m<64:=by
 have hl:=hY hp.v0;unfold bC;refine al (P:=fun x:Int => -1≤x∧x<64) (fun _=>by simp) fun hthere=>al (P:=fun x:Int => -1≤x∧x<64) (fun _=>by simp) fun h=>?_;rw[mF (by omega)]at h;have hm:m∈ep p:=by simpa using h
 obtain⟨th,f,t,h1,h2,h3,h4,h5,h6,h7,h8,h9,h10⟩:=gC hp.v0 hm;rw[h3,h4];rw[aF (n:=(t:Int)) (by omega) (by omega)];refine al (P:=fun x:Int => -1≤x∧x<64) (fun _=>by omega) fun _=>al (P:=fun x:Int => -1≤x∧x<64) (fun hk=>al (P:=fun x:Int => -1≤x∧x<64) (fun hd=>?_) fun _=>by simp) fun _=>by simp
 have hd:(f:Int).tmod 8≠(t:Int).tmod 8:=by simpa using hd
 have hto:(CE (p,own p,ov p) f).getLsbD t=true:=by unfold iC at h10;rw[hk,cond_true,BitVec.getLsbD_and]at h10;exact(by simp_all)
 have hat:=IP hp th.1 rfl h1 h2 hd hto;have h0:=hp.t0;have ht:=th.1;have:p.aa=0∨p.aa=1:=by omega
 rcases this with e|e
 ·rw[e]at hat;have:=Ux ⟨f,h1⟩ ⟨t,h2⟩ hat;simp only at this;rw[e];unfold dA;rw[show wr .u8 (1-0)=1 from by decide,aF (n:=(t:Int)-8) (by omega) (by omega)];grind
 ·rw[e]at hat;have:=Ub ⟨f,h1⟩ ⟨t,h2⟩ hat;simp only at this;rw[e];unfold dA;rw[show wr .u8 (1-1)=0 from by decide,aF (n:=(t:Int)+8) (by omega) (by omega)];grind
theorem HX (p:Pos)(m:Mv) : -1≤ie p m∧ie p m≤1:=by unfold ie;grind
theorem t137 (p:Pos)(m:Mv):xV p m=true:=by
 unfold xV;refine aq (fun _=>rfl) fun h=>ak ?_ fun _=>rfl;have h1:=HX p m;have h:¬ie p m<0:=by simpa using h
 show(decide (0≤ie p m)&&decide (ie p m<2))=true;simp;omega
theorem Il {p:Pos}(h0:0≤p.aa)(ht:p.aa≤1)(m:Mv):0≤(gS p m).1∧(gS p m).1<64∧0≤(gS p m).2.1∧(gS p m).2.1<64:=by
 have h1:=HX p m;unfold gS;refine al (P:=fun x:Int×Int×Bool=>0≤x.1∧x.1<64∧0≤x.2.1∧x.2.1<64) (fun _=>by simp) fun h=>?_;have h:¬ie p m<0:=by simpa using h
 rw[pB h0 ht];show 0≤wr .i64 (56*p.aa+_)∧_;have e:ie p m=0∨ie p m=1:=by omega
 have e':ie ⟨p.variant,p.ab,p.ai,p.ah,p.aa,p.ao,p.az,p.au,p.half,p.full⟩ ⟨m.aD,m.to,m.bU,m.bh,m.bZ⟩=ie p m:=rfl;rw[e'];have e2:p.aa=0∨p.aa=1:=by omega
 rcases e with e|e<;>rcases e2 with e2|e2<;>rw[e,e2]<;>decide
theorem t138 {p:Pos}{b c:Int}(hb:0≤b)(hc:0≤c):DF p b c=true:=by
 unfold DF;refine aq (fun _=>rfl) fun h=>?_;have h:sX b c=true:=by simpa using h
 have hin:b≤1∧1≤c∧c≤5:=by
  revert h;unfold sX;refine al (P:=fun x:Bool=>x=true→_) (fun h1=>al (P:=fun x:Bool=>x=true→_) (fun h2 h3=>?_) fun _ h=>by cases h) fun _ h=>by cases h
  simp only[decide_eq_true_eq]at h1 h2 h3;omega
 grind
theorem t141 {p:Pos}{b c:Int}(hb:0≤b)(hc:0≤c):wu p b c=true:=by
 unfold wu;refine aq (fun h=>?_) fun _=>rfl;have hin:b≤1∧1≤c∧c≤5:=by
  revert h;unfold sX;refine al (P:=fun x:Bool=>x=true→_) (fun h1=>al (P:=fun x:Bool=>x=true→_) (fun h2 h3=>?_) fun _ h=>by cases h) fun _ h=>by cases h
  simp only[decide_eq_true_eq]at h1 h2 h3;omega
 grind
theorem t143 (p:Pos)(s:Int):CR p s=true:=by unfold CR;repeat' (first|with_reducible rfl|with_reducible exact t199 _|with_reducible exact t193 _|with_reducible exact t147 _ _ _|refine ak ?_ (fun _=>?_)|refine aq (fun _=>?_) (fun _=>?_))
theorem UD {v:Int}(h:0≤v):0≤di v:=by unfold di;grind
theorem RT {i:Int}(h0:0≤i)(h1:i<64):(decide (0≤i)&&decide (i<Int.ofNat 64))=true:=by simp_all
theorem zY {l:List Int}{a b v:Int}(h:∀x∈l,a≤x∧x≤b)(hv:a≤v∧v≤b)(i:Nat):∀x∈l.set i v,a≤x∧x≤b:=by grind
theorem zx (a b:Int):0≤lI a b∧lI a b≤255:=by unfold lI;exact al (P:=fun x:Int=>0≤x∧x≤255) (fun _=>by decide) fun _=>al (P:=fun x:Int=>0≤x∧x≤255) (fun _=>by decide) fun _=>al (P:=fun x:Int=>0≤x∧x≤255) (fun _=>by decide) fun _=>⟨j5 _,mM _⟩
theorem Ao {n:Int}(h : -9223372036854775808≤n∧n≤9223372036854775807) : -9223372036854775808≤lU n∧lU n≤9223372036854775807:=by unfold lU;exact al (P:=fun x:Int => -9223372036854775808≤x∧x≤9223372036854775807) (fun _=>h) fun _=>Oc _
structure dT (p q:Pos):Prop where
 cn:ax q
 v:q.variant=p.variant
 t:q.aa=p.aa
noncomputable section
variable {p q:Pos}
theorem dT.ab (h:dT p q){bd:List Int}(hl:bd.length=64)(hb:∀x∈bd,0≤x∧x≤255)(pr:BitVec 64):dT p ⟨q.variant,bd,pr,q.ah,q.aa,q.ao,q.az,q.au,q.half,q.full⟩ :=
 ⟨⟨h.cn.v0,h.cn.v1,hl,hb,h.cn.kl,h.cn.k0,h.cn.t0,h.cn.t1,h.cn.rl,h.cn.r0,h.cn.p0,h.cn.p1,h.cn.cl,h.cn.c0,h.cn.h0,h.cn.f0⟩,h.v,h.t⟩
theorem dT.set (h:dT p q)(i:Nat){v:Int}(hv:0≤v∧v≤255):dT p ⟨q.variant,q.ab.set i v,q.ai,q.ah,q.aa,q.ao,q.az,q.au,q.half,q.full⟩ :=
 h.ab (by rw[List.length_set];exact h.cn.bl) (zY h.cn.b0 hv i) _
theorem dT.ai (h:dT p q)(pr:BitVec 64):dT p ⟨q.variant,q.ab,pr,q.ah,q.aa,q.ao,q.az,q.au,q.half,q.full⟩:=h.ab h.cn.bl h.cn.b0 pr
theorem dT.ah (h:dT p q)(i:Nat){v:Int}(hv:0≤v∧v≤255):dT p ⟨q.variant,q.ab,q.ai,q.ah.set i v,q.aa,q.ao,q.az,q.au,q.half,q.full⟩ :=
 ⟨⟨h.cn.v0,h.cn.v1,h.cn.bl,h.cn.b0,by rw[List.length_set];exact h.cn.kl,zY h.cn.k0 hv i,h.cn.t0,h.cn.t1,h.cn.rl,h.cn.r0,h.cn.p0,h.cn.p1,h.cn.cl,h.cn.c0,h.cn.h0,h.cn.f0⟩,h.v,h.t⟩
theorem dT.ao (h:dT p q){rk:List Int}(hl:rk.length=4)(hr:∀x∈rk,-128≤x∧x≤127):dT p ⟨q.variant,q.ab,q.ai,q.ah,q.aa,rk,q.az,q.au,q.half,q.full⟩ :=
 ⟨⟨h.cn.v0,h.cn.v1,h.cn.bl,h.cn.b0,h.cn.kl,h.cn.k0,h.cn.t0,h.cn.t1,hl,hr,h.cn.p0,h.cn.p1,h.cn.cl,h.cn.c0,h.cn.h0,h.cn.f0⟩,h.v,h.t⟩
theorem dT.as8 (h:dT p q)(i:Nat):dT p ⟨q.variant,q.ab,q.ai,q.ah,q.aa,q.ao.set i (-1),q.az,q.au,q.half,q.full⟩ :=
 h.ao (by rw[List.length_set];exact h.cn.rl) (zY h.cn.r0 (by omega) i)
theorem dT.az (h:dT p q){s:Int}(hs : -128≤s∧s≤127):dT p ⟨q.variant,q.ab,q.ai,q.ah,q.aa,q.ao,s,q.au,q.half,q.full⟩ :=
 ⟨⟨h.cn.v0,h.cn.v1,h.cn.bl,h.cn.b0,h.cn.kl,h.cn.k0,h.cn.t0,h.cn.t1,h.cn.rl,h.cn.r0,hs.1,hs.2,h.cn.cl,h.cn.c0,h.cn.h0,h.cn.f0⟩,h.v,h.t⟩
theorem dT.AL (h:dT p q){a b:Int}(ha : -9223372036854775808≤a∧a≤9223372036854775807)(hb : -9223372036854775808≤b∧b≤9223372036854775807):dT p ⟨q.variant,q.ab,q.ai,q.ah,q.aa,q.ao,q.az,q.au,a,b⟩ :=
 ⟨⟨h.cn.v0,h.cn.v1,h.cn.bl,h.cn.b0,h.cn.kl,h.cn.k0,h.cn.t0,h.cn.t1,h.cn.rl,h.cn.r0,h.cn.p0,h.cn.p1,h.cn.cl,h.cn.c0,ha,hb⟩,h.v,h.t⟩
theorem OC (h:dT p q)(b c:Int):dT p (rq q b c).1:=by unfold rq;refine al (P:=fun x:Pos×Bool=>dT p x.1) (fun _=>h) fun _=>al (P:=fun x:Pos×Bool=>dT p x.1) (fun _=>h) fun _=>?_;exact h.ah _ ⟨j5 _,mM _⟩
theorem Ch (h:dT p q)(b c:Int):dT p (ic q b c):=by unfold ic;refine al (P:=fun x:Pos=>dT p x) (fun _=>al (P:=fun x:Pos=>dT p x) (fun _=>?_) fun _=>h) fun _=>h;exact h.ah _ ⟨j5 _,mM _⟩
end
noncomputable section
variable {p:Pos}(hp:ax p)(m:Mv)
include hp
theorem fa (i:Nat):0≤p.ab.getD i 0∧p.ab.getD i 0≤255:=dm hp.b0 (by omega) i
theorem Gf (a:Pos)(b:Mv)(c:Int):dT p (bT a b p p m c):=by
 have h:dT p p:=⟨hp,rfl,rfl⟩;have z:(0:Int)≤0∧(0:Int)≤255:=by omega
 have bi:=fa hp;unfold bT;refine al (P:=fun x:Pos=>dT p x) (fun _=>((((h.set _ z).set _ z).set _ (bi _)).set _ (bi _))) fun _=>al (P:=fun x:Pos=>dT p x) (fun _=>(OC h _ _).set _ (zx _ _)) fun _=>al (P:=fun x:Pos=>dT p x) (fun _=>al (P:=fun x:Pos=>dT p x) (fun _=>(((h.set _ z).set _ z).set _ (bi _)).set _ (zx _ _)) fun _=>((h.set _ z).set _ z).set _ (bi _)) fun _=>al (P:=fun x:Pos=>dT p x) (fun _=>((h.set _ z).set _ (bi _)).set _ (zx _ _)) fun _=>(h.set _ z).set _ (bi _)
omit hp in
theorem G4 {q:Pos}(h:dT p q)(a:Pos)(b:Mv)(c:Int):dT p (cy a b q p m c):=by unfold cy;repeat' (first|exact h|exact h.ai _|exact Ch h _ _|exact(Ch h _ _).ai _|refine al (P:=fun x:Pos=>dT p x) (fun _=>?_) (fun _=>?_))
omit hp in
theorem Ek (l:List Int)(hl:l.length≤64)(hin:∀s∈l,0≤s∧s<64){q:Pos}(h:dT p q)(a b:Pos)(c d:Mv)(e:Int):∃r,rS l (Int.ofNat l.length) a c b d e (0,q)=some r∧dT p r.2.2:=by
 refine aQ (I:=fun x=>0≤x.1∧x.1≤(l.length:Int)∧dT p x.2) (μ:=fun x=>((l.length:Int)-x.1).toNat) ?_ _ (by simp_all) (by simp;omega);rintro⟨n,o⟩ ⟨h0,h1,h2⟩;simp only at h0 h1 h2;by_cases hc:n<l.length
 ·have hf:=hin _ (eD (d:=default) (show n.toNat<l.length by omega));refine⟨aq (fun _=>ak (by simp[h0];omega) fun _=>ak (RT hf.1 hf.2) fun _=>rfl) fun _=>rfl,al (fun _=>?_) fun h=>absurd h (by simpa using hc)⟩;rw[aF (n:=n+1) (by omega) (by omega)];exact⟨⟨by simp;omega,by simp;omega,h2.set _ (by omega)⟩,by simp;omega⟩
 ·exact⟨aq (fun h=>absurd h (by simpa using hc)) fun _=>rfl,al (fun h=>absurd h (by simpa using hc)) fun _=>h2⟩
omit hp in
theorem GX {q:Pos}(h:dT p q)(a:Pos)(b:Mv)(c:Int):qA a b q p m c=true∧dT p (cV a b q p m c):=by
 have hl:=aJ (Ek (p:=p) (gF (qL q (wr .i64 m.to)) 64) (dC _ _) (fun _ h=>jO h) h a p b m c);constructor
 ·unfold qA;refine aq (fun _=>rfl) fun _=>aq (fun _=>rfl) fun _=>ak (t143 _ _) fun _=>ak (t142 _) fun _=>ak ?_ fun _=>rfl;rw[dy];exact hl.1
 ·unfold cV;refine al (P:=fun x:Pos=>dT p x) (fun _=>h) fun _=>al (P:=fun x:Pos=>dT p x) (fun _=>h) fun _=>?_;rw[dy];exact hl.2
omit hp in
theorem vL {c k:Int}(hc0:0≤c)(hc1:c≤1)(l:List Int)(hl:∀s∈l,-128≤s∧s≤127){q:Pos}(h:dT p q)(a b:Pos)(m1 m2:Mv)(e:Int):∃r,lW c k l a m1 b m2 e (0,q)=some r∧dT p r.2.2:=by
 refine aQ (I:=fun x=>0≤x.1∧x.1≤2∧dT p x.2) (μ:=fun x=>(2-x.1).toNat) ?_ _ (by simp_all) (by simp);rintro⟨n,o⟩ ⟨h0,h1,h2⟩;simp only at h0 h1 h2;by_cases hc:n<2
 ·have hs:=dm hl (d:=0) (by omega) n.toNat;have go1:xf (fun x:Int×Pos=>0≤x.1∧x.1≤2∧dT p x.2) (fun r:Int×Bool×Pos=>dT p r.2.2) (fun x=>(2-x.1).toNat) (2-n).toNat (.go (wr .i64 (n+1),o)):=by rw[aF (n:=n+1) (by omega) (by omega)];exact⟨⟨by simp;omega,by simp;omega,h2⟩,by simp;omega⟩
  have go2:∀i,xf (fun x:Int×Pos=>0≤x.1∧x.1≤2∧dT p x.2) (fun r:Int×Bool×Pos=>dT p r.2.2) (fun x=>(2-x.1).toNat) (2-n).toNat (.go (wr .i64 (n+1),⟨o.variant,o.ab,o.ai,o.ah,o.aa,o.ao.set i (-1),o.az,o.au,o.half,o.full⟩)):=by intro i;rw[aF (n:=n+1) (by omega) (by omega)];exact⟨⟨by simp;omega,by simp;omega,h2.as8 i⟩,by simp;omega⟩
  have w1:wr .i64 c=c:=aF (by omega) (by omega);have w2:wr .i64 (56*c)=56*c:=aF (by omega) (by omega);have w3:wr .i64 (l.getD n.toNat 0)=l.getD n.toNat 0:=aF (by omega) (by omega);have w4:wr .i64 (56*c+l.getD n.toNat 0)=56*c+l.getD n.toNat 0:=aF (by omega) (by omega);have k1:(decide (0≤c)&&decide (c<Int.ofNat 2))=true:=by simp;omega
  have k2:(decide (0≤n)&&decide (n<Int.ofNat 2))=true:=by simp;omega
  refine⟨aq (fun _=>ak k2 fun _=>aq (fun _=>rfl) fun g0=>aq (fun _=>rfl) fun g1=>?_) fun _=>rfl,al (fun _=>?_) (by simp_all)⟩
  ·rw[w1,w2,w3,w4];have g0:0≤l.getD n.toNat 0:=by simpa using g0
   have g1:l.getD n.toNat 0≤7:=by simpa using g1
   have k3:(decide (0≤56*c+l.getD n.toNat 0)&&decide (56*c+l.getD n.toNat 0<Int.ofNat 64))=true:=RT (by omega) (by omega);simp_all
  grind
 ·exact⟨aq (fun h=>absurd h (by simpa using hc)) fun _=>rfl,al (fun h=>absurd h (by simpa using hc)) fun _=>h2⟩
omit hp in
theorem gQ {q:Pos}(h:dT p q)(a b:Pos)(m1 m2:Mv)(e:Int):∃r,ew a m1 b m2 e (0,q)=some r∧dT p r.2.2:=by
 refine aQ (I:=fun x=>0≤x.1∧x.1≤2∧dT p x.2) (μ:=fun x=>(2-x.1).toNat) ?_ _ (by simp_all) (by simp);rintro⟨n,o⟩ ⟨h0,h1,h2⟩;simp only at h0 h1 h2;by_cases hc:n≤1
 ·have hr:∀s∈List.take 2 (List.drop (scale 2 n).toNat o.ao),-128≤s∧s≤127:=fun s hs=>h2.cn.r0 s (by grind);have hl:=aJ (vL (p:=p) (k:=bg o n 6) h0 hc _ hr h2 a b m1 m2 e);refine⟨aq (fun _=>ak (t145 _ _ _) (by grind)) fun _=>rfl,al (fun _=>?_) (by simp_all)⟩;rw[kD (n:=n+1) (by omega) (by omega)];exact⟨⟨by simp;omega,by simp;omega,hl.2⟩,by simp;omega⟩
 ·exact⟨aq (fun h=>absurd h (by simpa using hc)) fun _=>rfl,al (fun h=>absurd h (by simpa using hc)) fun _=>h2⟩
theorem Gl (ht:p.aa≤1){q:Pos}(h:dT p q)(hm:m.bh=0→0≤m.aD∧m.aD<64)(a:Pos)(b:Mv)(c:Int):oU a b q p m c=true∧dT p (de a b q p m c):=by
 have t0:=hp.t0;have h2:dT p ⟨q.variant,q.ab,q.ai,q.ah,q.aa,List.take (scale 2 q.aa).toNat q.ao++li [-1,-1]++List.drop ((scale 2 q.aa).toNat+2) q.ao,q.az,q.au,q.half,q.full⟩:=by
  refine h.ao ?_ ?_
  ·have hr:=h.cn.rl;have:(scale 2 q.aa).toNat≤2:=by rw[h.t];unfold scale;simp;omega
   grind
  ·intro x hx;simp only[List.mem_append,li]at hx;rcases hx with(hx|hx)|hx
   ·exact h.cn.r0 x (by grind)
   ·simp at hx;omega
   ·exact h.cn.r0 x (by grind)
 have a1:=aJ (gQ h a p b m c);have a2:=aJ (gQ h2 a p b m c);have k1:(decide (0≤q.aa)&&decide (q.aa<Int.ofNat 2))=true:=by rw[h.t];simp;omega
 constructor
 ·unfold oU;grind
 ·unfold de;grind
omit hp in
theorem GQ {q:Pos}(h:dT p q)(hm:m.bh=0→0≤m.aD∧m.aD<64)(a:Pos)(b:Mv)(c:Int):pU a b q p m c=true∧dT p (dE a b q p m c):=by
 constructor
 ·unfold pU;refine aq (fun _=>?_) fun hd=>ak ?_ fun _=>?_
  ·simp_all
  ·simp_all
  ·repeat' (first|with_reducible rfl|with_reducible exact t146 _ _|with_reducible exact t147 _ _ _|refine ak ?_ (fun _=>?_)|refine aq (fun _=>?_) (fun _=>?_))
 ·have n1:(-128:Int) ≤ -1∧(-1:Int)≤127:=by omega
  unfold dE;repeat' (first|exact h.az n1|exact h.az (Sb _)|refine al (P:=fun x:Pos=>dT p x) (fun _=>?_) (fun _=>?_))
omit hp in
theorem IQ {q:Pos}(h:dT p q)(hm:m.bh=0→0≤m.aD∧m.aD<64)(a:Pos)(b:Mv)(c:Int):lX a b q p m c=true∧dT p (c9 a b q p m c):=by
 constructor
 ·unfold lX;grind
 ·have z:(-9223372036854775808:Int)≤0∧(0:Int)≤9223372036854775807:=by omega
  have f1:=h.cn.f0;have f2:=Ao h.cn.f0;have f3:=Ao h.cn.h0;unfold c9;repeat' (first|exact h.AL z f1|exact h.AL z f2|exact h.AL f3 f1|exact h.AL f3 f2|refine al (P:=fun x:Pos=>dT p x) (fun _=>?_) (fun _=>?_))
theorem ZT (ht:p.aa≤1){q:Pos}(h:dT p q)(a:Pos)(b:Mv)(c:Int):mD a b q p m c=true∧ax (df a b q p m c)∧(df a b q p m c).variant=p.variant∧(df a b q p m c).aa=1-p.aa:=by
 have t0:=hp.t0;have w1:wr .u8 (1-p.aa)=1-p.aa:=kD (by omega) (by omega);have w2:wr .u8 (1-(1-p.aa))=p.aa:=by rw[kD (by omega) (by omega)];omega
 have k1:(decide (0≤p.aa)&&decide (p.aa<Int.ofNat 2))=true:=by simp;omega
 have hq:ax ⟨q.variant,q.ab,q.ai,q.ah,1-p.aa,q.ao,q.az,q.au,q.half,q.full⟩ :=
  ⟨h.cn.v0,h.cn.v1,h.cn.bl,h.cn.b0,h.cn.kl,h.cn.k0,by simp_all,by grind,h.cn.rl,h.cn.r0,h.cn.p0,h.cn.p1,h.cn.cl,h.cn.c0,h.cn.h0,h.cn.f0⟩
 constructor
 ·unfold mD;rw[h.t,w1,w2];refine aq (fun _=>ak k1 fun _=>aq (fun _=>ak (t149 h.cn.v0 (by omega)) (by simp_all)) fun _=>rfl) fun _=>rfl
 ·unfold df;rw[h.t,w1,w2];have base:ax ⟨q.variant,q.ab,q.ai,q.ah,1-p.aa,q.ao,q.az,q.au,q.half,q.full⟩∧q.variant=p.variant∧(1-p.aa=1-p.aa):=⟨hq,h.v,rfl⟩;refine al (P:=fun x:Pos=>ax x∧x.variant=p.variant∧x.aa=1-p.aa) (fun _=>al (P:=fun x:Pos=>ax x∧x.variant=p.variant∧x.aa=1-p.aa) (fun _=>al (P:=fun x:Pos=>ax x∧x.variant=p.variant∧x.aa=1-p.aa) (fun _=>?_) fun _=>base) fun _=>base) fun _=>base;exact⟨⟨hq.v0,hq.v1,hq.bl,hq.b0,hq.kl,hq.k0,hq.t0,hq.t1,hq.rl,hq.r0,hq.p0,hq.p1,by rw[List.length_set];exact hq.cl,zY hq.c0 ⟨j5 _,mM _⟩ _,hq.h0,hq.f0⟩,h.v,rfl⟩
end
theorem iL {p:Pos}(hp:ax p){m:Mv}(h:m∈bR p):there p∧0≤m.aD∧m.aD<64∧0≤m.to∧m.to<64∧0≤m.bh∧m.bh≤5∧0≤m.bU∧m.bU≤6:=by
 rw[oJ]at h;have n110:∀v:Int,9≤v→xF v=false:=fun v hv=>by unfold xF;simp_all
 have n113:∀v:Int,9≤v→sV v=false:=fun v hv=>by unfold sV;simp_all
 simp only[List.mem_append]at h;rcases h with(h|h)|h
 ·obtain⟨th,f,t,h1,h2,h3,h4,h5,h6,h7,h8,_⟩:=gC hp.v0 h;grind
 ·obtain⟨h1,h2,h3,h4,h5,h6,h7,h8⟩:=uN hp h;refine⟨⟨h1,?_⟩,h2,h3,h4,h5,by omega,by omega,by omega,by omega⟩;refine Classical.byContradiction fun hv=>?_;unfold fc at h;simp_all
 ·obtain⟨h1,h2,h3,h4,h5,h6,h7,h8,h9⟩:=mG hp.t0 h;refine⟨⟨h1,?_⟩,by omega,by omega,h4,h5,by omega,h8,by omega,by omega⟩;grind
theorem kc {p:Pos}(hp:ax p)(m:Mv):JR p m=true∧(m∈bR p→(du p m).2=true∧ax (du p m).1∧(du p m).1.variant=p.variant∧(du p m).1.aa=1-p.aa)∧(m∉bR p→du p m=(p,false)):=by
 have hlen:=kJ hp;have hc:Kf (bR p) m=decide (m∈bR p):=mF (by omega);by_cases hm:m∈bR p
 ·obtain⟨th,f0,f1,g0,g1,d0,d1,r0,r1⟩:=iL hp hm;have hmf:m.bh=0→0≤m.aD∧m.aD<64:=fun _=>⟨f0,f1⟩;have hn:=EB hp m;have h1:=Gf hp m p m (bC p m);have h2:=G4 m h1 p m (bC p m);have h4:=GX m h2 p m (bC p m);have h8:=Gl hp m th.1 h4.2 hmf p m (bC p m);have h9:=GQ m h8.2 hmf p m (bC p m);have h10:=IQ m h9.2 hmf p m (bC p m);have h11:=ZT hp m th.1 h10.2 p m (bC p m);have kf:(decide (0≤m.aD)&&decide (m.aD<Int.ofNat 64))=true:=by simp;omega
  have kt:(decide (0≤m.to)&&decide (m.to<Int.ofNat 64))=true:=by simp;omega
  have kn:bC p m≥0→(decide (0≤bC p m)&&decide (bC p m<Int.ofNat 64))=true:=fun h=>by simp;omega
  have hg:=Il hp.t0 th.1 m;have ok1:qj p m p p m (bC p m)=true:=by
   unfold qj;have kg1:(decide (0≤(gS p m).1)&&decide ((gS p m).1<Int.ofNat 64))=true:=by simp;omega
   have kg2:(decide (0≤(gS p m).2.1)&&decide ((gS p m).2.1<Int.ofNat 64))=true:=by simp;omega
   refine aq (fun _=>?_) fun _=>aq (fun _=>?_) fun _=>aq (fun hh=>?_) fun _=>?_
   ·repeat' (first|with_reducible rfl|with_reducible exact t137 _ _|with_reducible exact kf|with_reducible exact kt|with_reducible exact kg1|with_reducible exact kg2|refine ak ?_ (fun _=>?_))
   ·refine ak (t138 hp.t0 d0) (by simp_all)
   ·simp_all
   ·simp_all
  have ok2:oX p m (bT p m p p m (bC p m)) p m (bC p m)=true:=by
   have e:0≤(bT p m p p m (bC p m)).aa:=h1.cn.t0;have bi:=fun i=>(fa hp i).1;unfold oX;refine aq (fun _=>rfl) fun _=>aq (fun _=>rfl) fun _=>aq (fun _=>ak (t137 _ _) fun _=>rfl) fun _=>aq (fun hh=>?_) fun _=>rfl;have hh:bC p m≥0:=by simpa using hh
   have kn:=kn hh;repeat' (first|with_reducible rfl|with_reducible exact kn|with_reducible exact t141 e (by decide)|with_reducible exact t141 e (UD (bi _))|refine ak ?_ (fun _=>?_)|refine aq (fun _=>?_) (fun _=>?_))
  refine⟨?_,fun _=>?_,fun h=>absurd hm h⟩
  ·unfold JR;exact ak (t66 hp) fun _=>ak (t65 (by omega)) fun _=>aq (fun _=>rfl) fun _=>ak (t67 hp.v0 m) (by simp_all)
  ·unfold du;rw[hc];simp only[hm,decide_true,Bool.not_true,cond_false];exact⟨trivial,h11.2⟩
 ·refine⟨?_,fun h=>absurd h hm,fun _=>?_⟩
  ·unfold JR;refine ak (t66 hp) fun _=>ak (t65 (by omega)) fun _=>aq (fun _=>rfl) fun h=>?_;simp_all
  ·unfold du;rw[hc];simp[hm]
theorem t121 (p:Pos)(b:Int):sx p b=true:=ak (t145 _ _ _) fun _=>rfl
noncomputable section
variable {p:Pos}(hp:ax p)
include hp
theorem M3 (m:Mv):0≤(du p m).1.variant:=by
 obtain⟨_,h1,h2⟩:=kc hp m;by_cases hm:m∈bR p
 ·rw[(h1 hm).2.2.1];exact hp.v0
 ·rw[h2 hm];exact hp.v0
theorem t126 (m:Mv):so p m=true:=by have hv:=M3 hp m;have t0:=hp.t0;have b1:=j5 (1-p.aa);unfold so;refine ak (kc hp m).1 fun _=>?_;have k1:lV p.variant p.aa=true:=t120 hp.v0 t0;have k2:lZ (du p m).1 p.aa=true:=t149 hv t0;have k3:lZ (du p m).1 (wr .u8 (1-p.aa))=true:=t149 hv b1;repeat' (first|with_reducible rfl|with_reducible exact k1|with_reducible exact k2|with_reducible exact k3|with_reducible exact t121 _ _|refine ak ?_ (fun _=>?_)|refine aq (fun _=>?_) (fun _=>?_))
theorem yc {l:M'}(hl:l.length≤1000000):dD 125 p l=true:=by
 unfold dD;rw[show(125:Nat).beq 125=true from rfl,cond_true];have h1:decide (l.length≤qI)=true:=by unfold qI;simp;omega
 rw[h1,Bool.true_and];exact oF.2 (t126 hp)
theorem xI {l:M'}(hl:l.length≤1000000):dD 127 p l=true:=by
 unfold dD;rw[show(127:Nat).beq 125=false from rfl,cond_false,show(127:Nat).beq 127=true from rfl,Bool.true_and];have h1:decide (l.length≤qI)=true:=by unfold qI;simp;omega
 rw[h1,Bool.true_and];exact rz.2 (t47 hp.v0)
omit hp in
theorem mZ (l:M'):kept 125 p l=l.filter (gh p):=by unfold kept;simp_all
omit hp in
theorem Us (l:M'):kept 127 p l=l.filter (ig p):=by unfold kept;rw[show(127:Nat).beq 125=false from rfl,cond_false]
theorem ab2 (l:M')(hl:l.length≤1000000):∃r,eh l (Int.ofNat l.length) p 0=some r ∧
  match r with
  | .inl i=>0≤i∧∃m,m∈l∧ig p m=true
  | .inr _=>∀m,m∈l→ig p m=false:=by
 refine aQ (I:=fun x=>0≤x∧x≤(l.length:Int)∧∀m,m∈l.take x.toNat→ig p m=false) (μ:=fun x=>((l.length:Int)-x).toNat) ?_ _ (by simp_all) (by simp;omega);rintro n ⟨h0,h1,h2⟩;by_cases hc:n<l.length
 ·have hlt:n.toNat<l.length:=by omega
  refine⟨aq (fun _=>ak (by simp[h0];exact hc) fun _=>ak (t47 hp.v0 _) fun _=>rfl) fun _=>rfl,al (fun _=>?_) (by simp_all)⟩;refine al (fun h=>⟨h0,_,eD hlt,h⟩) fun h=>?_;rw[aF (n:=n+1) (by omega) (by omega)];refine⟨⟨by omega,by omega,?_⟩,by dsimp only;omega⟩;rw[show(n+1).toNat=n.toNat+1 by omega,List.take_succ_eq_append_getElem hlt];grind
 ·refine⟨aq (fun h=>absurd h (by simpa using hc)) fun _=>rfl,al (fun h=>absurd h (by simpa using hc)) fun _=>?_⟩;show ∀m,m∈l→ig p m=false;rw[List.take_of_length_le (by omega)]at h2;exact h2
theorem ME (l:M')(hl:l.length≤1000000){α:Type}(x y:α) :
  (bif cQ ((eh l (Int.ofNat l.length) p 0).getD default)then bif decide (gl ((eh l (Int.ofNat l.length) p 0).getD default)≥0)then x else y else y)=bif l.any (ig p)then x else y:=by
 have h:=(aJ (ab2 hp l hl)).2;generalize (eh l (Int.ofNat l.length) p 0).getD default=r at h⊢;cases r with
 |inl i =>
  obtain⟨h1,m,h2,h3⟩:=h;have:l.any (ig p)=true:=by grind
  simp[cQ,gl,h1,this]
 |inr z =>
  have:l.any (ig p)=false:=by rw[List.any_eq_false];intro m hm;rw[h m hm];simp
  simp[cQ,this]
theorem pF:((bR p).filter (gh p)).length≤20802:=Nat.le_trans (by grind) (kJ hp)
theorem t64:Dz p=true:=by have h1:=kJ hp;have h2:=pF hp;have k1:lV p.variant p.aa=true:=t120 hp.v0 hp.t0;have k2:wG p=true:=t66 hp;have k3:dD 125 p (bR p)=true:=yc hp (by omega);have k4:dD 127 p (kept 125 p (bR p))=true:=xI hp (by rw[mZ];omega);have k5:(eh (kept 125 p (bR p)) (Int.ofNat (kept 125 p (bR p)).length) p 0).isSome=true:=(aJ (ab2 hp _ (by rw[mZ];omega))).1;unfold Dz;repeat' (first|with_reducible rfl|with_reducible exact k1|with_reducible exact k2|with_reducible exact k3|with_reducible exact k4|with_reducible exact k5|with_reducible exact t121 _ _|refine ak ?_ (fun _=>?_)|refine aq (fun _=>?_) (fun _=>?_))
def lR (p:Pos):M':=bif p.variant==4 then bif((bR p).filter (gh p)).any (ig p)then((bR p).filter (gh p)).filter (ig p)else(bR p).filter (gh p)else(bR p).filter (gh p)
theorem FP:lH p=bif pd p.variant p.aa then bif !oC p p.aa then[]else lR p else lR p:=by have h2:=pF hp;unfold lH;have e:=fun (x y:M')=>ME hp (kept 125 p (bR p)) (by rw[mZ];omega) x y;rw[e];unfold lR;rw[Us,mZ]
omit hp in
theorem uX {m:Mv}(h:m∈lR p):m∈bR p∧gh p m=true:=by revert h;unfold lR;grind
theorem HA {m:Mv}(h:m∈lH p):m∈bR p∧gh p m=true:=by rw[FP hp]at h;revert h;exact al (P:=fun l:M'=>m∈l→_) (fun _=>al (P:=fun l:M'=>m∈l→_) (fun _ h=>by cases h) fun _=>uX) fun _=>uX
omit hp in
theorem Df (hl:((bR p).filter (gh p)).length≤20802):(lR p).length≤20802:=by unfold lR;grind
theorem Ad:(lH p).length≤20802:=by have h:=Df (pF hp);rw[FP hp];grind
omit hp in
theorem afl (l:M')(hl:l.length≤1000000)(q:Pos)(k:Int):(fp l (Int.ofNat l.length) q k 0).isSome=true:=by
 refine(aJ (Q:=fun _=>True) (aQ (I:=fun x=>0≤x∧x≤(l.length:Int)) (μ:=fun x=>((l.length:Int)-x).toNat) ?_ _ ⟨by simp,by simp⟩ (by simp;omega))).1;rintro n ⟨h0,h1⟩;by_cases hc:n<l.length
 ·refine⟨aq (fun _=>ak (by simp[h0];exact hc) fun _=>rfl) fun _=>rfl,al (fun _=>?_) fun h=>absurd h (by simpa using hc)⟩;rw[aF (n:=n+1) (by omega) (by omega)];have go:xf (fun x:Int=>0≤x∧x≤(l.length:Int)) (fun _:Int ⊕ (Int×Bool)=>True) (fun x=>((l.length:Int)-x).toNat) ((l.length:Int)-n).toNat (.go (n+1)):=⟨⟨by omega,by omega⟩,by dsimp only;omega⟩;exact al (fun _=>al (fun _=>trivial) fun _=>go) fun _=>go
 ·exact⟨aq (fun h=>absurd h (by simpa using hc)) fun _=>rfl,al (fun h=>absurd h (by simpa using hc)) fun _=>trivial⟩
theorem t187:Cv p=true:=by have h:=Ad hp;have k1:Dz p=true:=t64 hp;have k2:(fp (lH p) (Int.ofNat (lH p).length) p (bg p 1 6) 0).isSome=true:=afl _ (by omega) _ _;unfold Cv;repeat' (first|with_reducible rfl|with_reducible exact k1|with_reducible exact k2|with_reducible exact t145 _ _ _|refine ak ?_ (fun _=>?_)|refine aq (fun _=>?_) (fun _=>?_))
omit hp in
theorem t182:Hk p=true:=ak (t121 _ _) fun _=>rfl
theorem t183 (ht:p.aa≤1):B7 p=true:=by have t0:=hp.t0;unfold B7;rw[kD (n:=1-p.aa) (by omega) (by omega)];grind
omit hp in
theorem t184:Cz p=true:=by unfold Cz;repeat' (first|with_reducible rfl|with_reducible exact t145 _ _ _|refine ak ?_ (fun _=>?_)|refine aq (fun _=>?_) (fun _=>?_))
omit hp in
theorem t185:Ge p=true:=ak (t147 _ _ _) fun _=>rfl
omit hp in
theorem t186:Da p=true:=by unfold Da;repeat' (first|with_reducible rfl|with_reducible exact t147 _ _ _|refine ak ?_ (fun _=>?_)|refine aq (fun _=>?_) (fun _=>?_))
theorem t63:BT p=true:=by
 have v0:=hp.v0;unfold BT;refine aq (fun _=>rfl) fun h9=>aq (fun _=>rfl) fun ht=>?_;have h9:p.variant<9:=by simpa using h9
 have ht:p.aa≤1:=by simpa using ht
 refine ak (by simp;omega) fun _=>?_;have k3:=t182 (p:=p);have k4:=t186 (p:=p);have k5:=t183 hp ht;have k6:=t184 (p:=p);have k7:=t185 (p:=p);have k8:=t187 hp;grind
theorem t30:Pf p=true:=ak (t63 hp) fun _=>aq (fun _=>rfl) fun _=>ak (t64 hp) fun _=>rfl
theorem Qi:dh p=bif(uC p).1 != 0 then[]else lH p:=rfl
theorem nn:(dh p).length≤20802:=by unfold dh;exact al (P:=fun l:M'=>l.length≤20802) (fun _=>by simp) fun _=>Ad hp
end
def mW (r:Int×Int):Prop:=r=(0,0)∨((r.1=1∨r.1=2)∧(r.2=6∨r.2=7∨r.2=8))∨r=(3,6)
theorem Lz {c w:Int}(hc:c=0∨c=1)(hw:w=6∨w=7∨w=8):mW (dn c w):=by
 refine .inr (.inl ⟨?_,hw⟩);rcases hc with rfl|rfl
 ·exact .inl rfl
 ·exact .inr rfl
theorem eJ {c w:Int}(hc:c=0∨c=1)(hw:w=6∨w=7∨w=8):mW ((dn c w).1,(dn c w).2):=Lz hc hw
theorem vD:mW (0,0) := .inl rfl
theorem Gj {p:Pos}(hp:ax p):mW (uC p)∧(((uC p).1=3∨(p.variant<3))→(uC p).1=0∨p.variant=8)∧((uC p).1≠0→3≤p.variant∧p.variant<9∧p.aa≤1):=by
 have t0:=hp.t0;have v0:=hp.v0;unfold uC;have nw:∀{P:Prop},mW ((0:Int),(0:Int))∧((((0:Int),(0:Int)).1=3∨P)→((0:Int),(0:Int)).1=0∨p.variant=8)∧(((0:Int),(0:Int)).1≠0→3≤p.variant∧p.variant<9∧p.aa≤1):=fun {P}=>⟨vD,fun _=>.inl rfl,fun h=>absurd rfl h⟩;have ci:=fun {d:Bool} {x y:Int×Int} => @al (Int×Int) (fun r=>mW r∧((r.1=3∨(p.variant<3))→r.1=0∨p.variant=8)∧(r.1≠0→3≤p.variant∧p.variant<9∧p.aa≤1)) d x y;refine ci (fun _=>nw) fun h9=>ci (fun _=>nw) fun ht=>?_;have h9:p.variant<9:=by simpa using h9
 have ht:p.aa≤1:=by simpa using ht
 have hc:p.aa=0∨p.aa=1:=by omega
 have hc':wr .u8 (1-p.aa)=0∨wr .u8 (1-p.aa)=1:=by rw[kD (by omega) (by omega)];omega
 have one:∀(r:Int×Int),mW r→r.1≠3→3≤p.variant→mW r∧((r.1=3∨(p.variant<3))→r.1=0∨p.variant=8)∧(r.1≠0→3≤p.variant∧p.variant<9∧p.aa≤1):=by grind
 have n3:∀{c w:Int},(c=0∨c=1)→(dn c w).1≠3:=fun {c w} h=>by rcases h with rfl|rfl<;>(show wr .u8 _≠3;decide)
 have z3:(((0:Int),(0:Int)).1)≠3:=by decide
 have cw:=fun {d:Bool} {x y:Int×Int} => @al (Int×Int) (fun r=>mW (r.1,r.2)∧r.1≠3) d x y;have w6:((6:Int)=6∨(6:Int)=7∨(6:Int)=8) := .inl rfl;have w7:((7:Int)=6∨(7:Int)=7∨(7:Int)=8) := .inr (.inl rfl);have w8:((8:Int)=6∨(8:Int)=7∨(8:Int)=8) := .inr (.inr rfl);have c0:((0:Int)=0∨(0:Int)=1) := .inl rfl;have c1:((1:Int)=0∨(1:Int)=1) := .inr rfl;have k113:mW ((AP p).1,(AP p).2)∧(AP p).1≠3:=by unfold AP;repeat' (first|exact⟨vD,z3⟩|exact⟨eJ hc' w6,n3 hc'⟩|refine cw (fun _=>?_) (fun _=>?_))
 have k117:mW ((AQ p).1,(AQ p).2)∧(AQ p).1≠3:=by unfold AQ;repeat' (first|exact⟨vD,z3⟩|exact⟨eJ hc w8,n3 hc⟩|exact⟨eJ hc' w8,n3 hc'⟩|refine cw (fun _=>?_) (fun _=>?_))
 have k114:mW ((zt p).1,(zt p).2)∧(zt p).1≠3:=by unfold zt;repeat' (first|exact⟨vD,z3⟩|exact⟨eJ hc w7,n3 hc⟩|exact⟨eJ hc' w7,n3 hc'⟩|refine cw (fun _=>?_) (fun _=>?_))
 have k115:mW ((Ay p).1,(Ay p).2)∧(Ay p).1≠3:=by unfold Ay;repeat' (first|exact⟨vD,z3⟩|exact⟨eJ hc w6,n3 hc⟩|exact⟨eJ hc' w6,n3 hc'⟩|refine cw (fun _=>?_) (fun _=>?_))
 have k116:mW ((AW p).1,(AW p).2)∧(AW p).1≠3:=by unfold AW;repeat' (first|exact⟨vD,z3⟩|exact⟨eJ c1 w8,n3 c1⟩|refine cw (fun _=>?_) (fun _=>?_))
 have k118:mW ((AE p).1,(AE p).2):=by unfold AE;repeat' (first|exact vD|exact .inr (.inr rfl)|exact eJ c0 w6|exact eJ c1 w6|refine al (P:=fun r:Int×Int=>mW (r.1,r.2)) (fun _=>?_) (fun _=>?_))
 have vv:∀(n:Nat),(p.variant==Int.ofNat n)=true→p.variant=n:=by grind
 refine ci (fun _=>nw) fun n0=>ci (fun _=>nw) fun n1=>ci (fun _=>nw) fun n2=>ci (by grind) fun m3=>ci (by grind) fun n4=>ci (by grind) fun n5=>ci (by grind) fun n6=>ci (by grind) fun n7=>?_;grind
end Kz
namespace Kz
open Go Go.RowKit Go.Proofs
def ad1:List (Nat×Nat×List (Nat×List Nat)):=[(30,9,[(0,[1]),(1,[1,6]),(2,[2]),(3,[2])]),(64,37,[(0,[1]),(1,[1,17]),(2,[2]),(3,[1,3]),(4,[1,3,4]),(5,[1,3,4,5]),(6,[3,4,5,31]),(7,[4]),(8,[2])]),(110,19,[(0,[0,1]),(1,[0,1,7,8]),(2,[0,1,7,8,9]),(3,[0,1,5,7,8]),(4,[0,1,5,7,8,16]),(5,[4]),(6,[0,1,7,8]),(7,[4])]),(122,9,[(0,[0,3]),(1,[4])]),(125,7,[(0,[1,2]),(1,[3])]),(127,7,[(0,[1,2]),(1,[3])]),(128,9,[(0,[0,1]),(1,[4])])]
def abN:ar:=gm Pz (fun f i=>lkC f i ad1) [(47,Zu),(63,G63),(66,DO),(120,Fp),(121,EK),(126,JJ)] [] [(122,FK)]
theorem Ug:aO abN:=af ae ⟨s47,s63,FQ,Jz,Iu,NJ,trivial⟩ trivial ⟨sFK,trivial⟩
def O5 (p1:M')(p2:Int)(p3:Pos)(p4:Pos)(x:(Int)):St:=St.mk (AV.list ET.mv p1 (Tk.own 2)::AV.func 127 [] [AV.ptr 1 0]::(an 5 (AV.int .i64 p2::AV.int .i64 x::(an 10 [])))) (Hp.mk [(pc p3 []),(pc p4 [])] [0,0,p1.length] [] 0 0 0)
def OQ (p1:M')(p2:Int)(p3:Pos)(p4:Pos):(Int) ⊕ (Int×Bool)→Out
 |(.inl (y))=>.ret (St.mk (an 4 (AV.int .i64 y::(an 14 []))) (Hp.mk [(pc p3 []),(pc p4 [])] [0,0,p1.length] [] 0 0 0))
 |(.inr (y))=>.exit 0 (St.mk (AV.list ET.mv p1 (Tk.own 2)::AV.func 127 [] [AV.ptr 1 0]::(an 5 (AV.int .i64 p2::AV.int .i64 y.fst::AV.bool y.snd::(an 9 [])))) (Hp.mk [(pc p3 []),(pc p4 [])] [0,0,p1.length] [] 0 0 0))
def Tg (p1:M')(p2:Int)(p3:Pos)(p4:Pos)(x:(Int)):aG (Int) ((Int) ⊕ (Int×Bool)):=(bif decide (x<p2)then(bif ig p4 (p1.getD x.toNat default)then(aG.out (.inl x))else(aG.go (wr .i64 (x+1))))else(aG.out (.inr ((x,decide (x<p2))))))
def Kr (p1:M')(p2:Int)(p3:Pos)(p4:Pos)(x:(Int)):Bool:=(bif decide (x<p2)then(decide (0≤x)&&decide (x<Int.ofNat p1.length)&&(xi p4 (p1.getD x.toNat default)&&true))else true)
def fq (p1:M')(p2:Int)(p3:Pos)(p4:Pos)(x:(Int)):Option ((Int) ⊕ (Int×Bool)):=cW (fun x=>bif Kr p1 p2 p3 p4 x then Tg p1 p2 p3 p4 x else .bad) many x
abbrev NR {α:Type}(k:M'→Int→Pos→Pos→(Int)→α)(s:St):α:=wP s 0 fun q0=>wP s 1 fun q1=>k (tL (ET.mv) (tT s 0)) (tI (tT s 7)) q0 q1 ((tI (tT s 8)))
theorem aa1 (p1:M')(p2:Int)(p3:Pos)(p4:Pos)(x:(Int))(r:(Int) ⊕ (Int×Bool))(h:fq p1 p2 p3 p4 x=some r):aC Pz (bc Pz 110 2) (O5 p1 p2 p3 p4 x) (OQ p1 p2 p3 p4 r):=aC.Be (m:=12) (fn:=77) Ug (NR fun _ _ _ _ x=>some x) (fun o=>match o with | .ret s=>some (.inl (tI (tT s 4))) | .exit 0 s=>some (.inr ((tI (tT s 8)),(tB (tT s 9))))|_=>none) (fun r=>by cases r<;>rfl) (fun _=>by kernel_rfl) (fun _=>by kernel_rfl) (fun _=>by kernel_rfl) (fun _=>by kernel_rfl) many x r h
def Nj (b:Code)(s:St):Tr Out:=NR (fun p1 p2 p3 p4 x=>Bg b (bc Pz 110 2) s (O5 p1 p2 p3 p4 x) (fq p1 p2 p3 p4 x) (OQ p1 p2 p3 p4)) s
theorem Sc:∀b,aT Pz b (Nj b):=fun _ _ _ h=>fj (aa1 _ _ _ _ _) h
def Uj:ar:=gm Pz (fun f i=>lkC f i ad1) [(47,Zu),(63,G63),(66,DO),(120,Fp),(121,EK),(126,JJ)] [(110,2,Nj)] [(122,FK)]
theorem afJ:aO Uj:=af ae ⟨s47,s63,FQ,Jz,Iu,NJ,trivial⟩ ⟨Sc,trivial⟩ ⟨sFK,trivial⟩
def CG:bL→Option (M'×Nat)
 | .ret (.list .mv m (.own k)) h=>(h.ag[k]?).map fun n=>(m,n)
 |_=>none
def ack (a:Pos):M'×Nat:=(bif(uC a).fst != 0 then([],0)else(bif pd a.variant a.aa then(bif !oC a a.aa then([],0)else(bif a.variant==4 then(bif cQ ((fq (kept 125 a (bR a)) (Int.ofNat (kept 125 a (bR a)).length) a a 0).getD default)then(bif decide (gl ((fq (kept 125 a (bR a)) (Int.ofNat (kept 125 a (bR a)).length) a a 0).getD default)≥0)then((kept 127 a (kept 125 a (bR a))),(kept 127 a (kept 125 a (bR a))).length)else((kept 125 a (bR a)),(kept 125 a (bR a)).length))else((kept 125 a (bR a)),(kept 125 a (bR a)).length))else((kept 125 a (bR a)),(kept 125 a (bR a)).length)))else(bif a.variant==4 then(bif cQ ((fq (kept 125 a (bR a)) (Int.ofNat (kept 125 a (bR a)).length) a a 0).getD default)then(bif decide (gl ((fq (kept 125 a (bR a)) (Int.ofNat (kept 125 a (bR a)).length) a a 0).getD default)≥0)then((kept 127 a (kept 125 a (bR a))),(kept 127 a (kept 125 a (bR a))).length)else((kept 125 a (bR a)),(kept 125 a (bR a)).length))else((kept 125 a (bR a)),(kept 125 a (bR a)).length))else((kept 125 a (bR a)),(kept 125 a (bR a)).length))))
def KL (a:Pos):Bool:=(BT a&&(bif(uC a).fst != 0 then true else(lV a.variant a.aa&&(bif pd a.variant a.aa then(sx a a.aa&&(bif !oC a a.aa then true else(wG a&&(dD 125 a (bR a)&&(bif a.variant==4 then((fq (kept 125 a (bR a)) (Int.ofNat (kept 125 a (bR a)).length) a a 0).isSome&&bif cQ ((fq (kept 125 a (bR a)) (Int.ofNat (kept 125 a (bR a)).length) a a 0).getD default)then(bif decide (gl ((fq (kept 125 a (bR a)) (Int.ofNat (kept 125 a (bR a)).length) a a 0).getD default)≥0)then(dD 127 a (kept 125 a (bR a))&&true)else true)else true)else true)))))else(wG a&&(dD 125 a (bR a)&&(bif a.variant==4 then((fq (kept 125 a (bR a)) (Int.ofNat (kept 125 a (bR a)).length) a a 0).isSome&&bif cQ ((fq (kept 125 a (bR a)) (Int.ofNat (kept 125 a (bR a)).length) a a 0).getD default)then(bif decide (gl ((fq (kept 125 a (bR a)) (Int.ofNat (kept 125 a (bR a)).length) a a 0).getD default)≥0)then(dD 127 a (kept 125 a (bR a))&&true)else true)else true)else true)))))))
theorem an0 (a:Pos):((Gs Uj 14 30 [Pos.av a] sn).qt CG).val=KL a:=by kernel_rfl
theorem aoJ (a:Pos):(Gs Uj 14 30 [Pos.av a] sn).vt CG=ack a:=by kernel_rfl
theorem Ct (l:M')(p:Pos):fq l (Int.ofNat l.length) p p 0=eh l (Int.ofNat l.length) p 0:=rfl
theorem S9 {p:Pos}(hp:ax p):KL p=true:=by have h1:=kJ hp;have h2:=pF hp;have k0:BT p=true:=t63 hp;have k1:lV p.variant p.aa=true:=t120 hp.v0 hp.t0;have k2:wG p=true:=t66 hp;have k3:dD 125 p (bR p)=true:=yc hp (by omega);have k4:dD 127 p (kept 125 p (bR p))=true:=xI hp (by rw[mZ];omega);have k5:(eh (kept 125 p (bR p)) (Int.ofNat (kept 125 p (bR p)).length) p 0).isSome=true:=(aJ (ab2 hp _ (by rw[mZ];omega))).1;unfold KL;rw[Ct];repeat' (first|with_reducible rfl|with_reducible exact k0|with_reducible exact k1|with_reducible exact k2|with_reducible exact k3|with_reducible exact k4|with_reducible exact k5|with_reducible exact t121 _ _|refine ak ?_ (fun _=>?_)|refine aq (fun _=>?_) (fun _=>?_))
theorem SG (p:Pos):ack p=(dh p,(dh p).length):=by unfold ack dh lH;rw[Ct];grind
theorem agu (p:Pos)(hp:ax p)(w:World)(hg:cN w)(v:Value)(hv:aM (cH w) [] w (Pos.av p) v) :
  Calls Tryz.prog 30 #[v] w fun e w'=>∃a cap,e=.returned (.slice a (dh p).length cap)∧RowKit.Below w.heap.size w w'∧lQ w w' a cap (dh p):=by
 obtain⟨r,h1,h2⟩:=ua (d:=CG) (R:=fun r v=>CG r=some v) (Gs Uj 14 30 [Pos.av p] sn) (zL (by kernel_rfl)) (fun a _ v hv=>hv) ((an0 p).trans (S9 hp));rw[aoJ,SG]at h2;obtain⟨hspec,_⟩:=(ss afJ 14).1 _ _ _ _ h1;unfold CG at h2;split at h2
 ·rename_i m k h;simp only[H',Prod.mk.injEq]at h2;obtain⟨n0,hk,hml,hnl⟩:=h2;subst hnl;have hml':m=dh p:=hml;clear hml;subst hml';refine(callsIn_wide.1 (hspec (cH w) w #[v] (Qe hg) (.cons hv .nil))).mono ?_;rintro e w' ⟨g',x,rfl,nx,hx⟩;generalize dh p=l at *;have hbase:g'.base=w.heap.size:=nx.le.base;cases hx with
  |list hn hE hS hT hC =>
  rename_i a n cap cs;subst hn;have hcs:=dH hE;obtain⟨n',hn1,hn2,hown⟩:=hT k rfl;rw[hk]at hn1;simp only[A']at hn1;obtain⟨ow,how,hOI⟩:=hown hn1;refine⟨a,cap,rfl,nx.le.below,?_⟩;cases ow with
  |none =>obtain⟨ha,hlen,hcap⟩:=hOI;exact .inl ⟨ha,List.eq_nil_of_length_eq_zero hlen,hcap⟩
  |some t =>
   obtain⟨b,cap',z'⟩:=t;obtain⟨rfl,rfl,rfl⟩:=hOI;obtain⟨_,cells,ty,_,_,hmax,hb,hblk,hsz,_,_⟩:=nx.mr.tok k b cap (lF .mv) how;refine .inr ⟨b,ty,rfl,by omega,aB hblk,hC,hmax,rfl,rfl,rfl,Nat.le_refl _,fun _ _ _=>rfl,cells,hblk,hsz.1,fun j c hj hc=>?_⟩;have hj':j<l.length:=by simpa using hj
   have h1:j*5+c<l.length*5:=by have:=(by omega);omega
   have hfl:=eE l j c hj' hc;have ea:l.toArray[j]! = l[j]:=by simp[hj']
   have eb:l[j]! = l[j]:=by simp[hj']
   rw[ea];rw[eb]at hfl;rcases hS with h0|⟨c',o',ha,hat,_⟩
   ·exfalso;have:=cZ l;simp_all
   ·simp only[A',Addr.mk.injEq,and_true]at ha;obtain⟨rfl,rfl⟩:=ha;have hx:cs[j*5+c]?=(bP l[j])[c]? := by rw[hcs];exact hfl
    obtain⟨u,hu⟩:∃u,(bP l[j])[c]?=some u:=⟨_,I' (show c<(bP l[j]).length from hc)⟩;obtain⟨k1,_⟩:=hat (j*5+c) u (by rw[hx,hu]);rw[aw hblk,Nat.zero_add]at k1;simp_all
 ·cases h2
end Kz
namespace Go.Proofs
open Go.Shelf Go.RowKit Go.Lib Go.Sort Kz
def DK (p:Pos)(l:M'):M':=(sU (dO fun a b=>C9 a b p) l.toArray).toList
theorem C4 (p:Pos)(l:M'):(DK p l).Perm l:=by have h:=T7 (dO fun a b=>C9 a b p) l.toArray;unfold Pm at h;simpa[DK]using h
theorem AN (p:Pos)(l:M'):(DK p l).length=l.length:=(C4 p l).length_eq
set_option maxRecDepth 100000 in
theorem atP (p:Pos)(w w0:World)(hg:cN w)(hb:RowKit.Below w.heap.size w w0)(bx cap:Nat)(ty:TypeId)(hblk:w.heap.size≤bx)(pb po:Nat)(pcs:List Value)(hp:ay (cH w) [] w (bf (Pos.av p)) pcs)(hpb:pb<w.heap.size)(hc:∀j x,pcs[j]?=some x→w.cell? ⟨pb,po+j,none⟩=some x) :
  lT 105 #[.pointer (some ⟨pb,po,none⟩)] (fun a b=>C9 a b p) bx 0 5 bP (fun d W=>dq w0 bx cap ty d W∧d.size≤cap):=by
 have ld:∀{d:Array Mv} {W:World},dq w0 bx cap ty d W→∀i,i<d.size→Sem.run Tryz.prog (loadCellsFrom ⟨bx,0+i*5,none⟩ 0 5 #[]) W=.ok (bP d[i]!).toArray W:=fun h i hi=>h.load hi;have st:∀{d:Array Mv} {W:World},dq w0 bx cap ty d W→d.size≤cap→∀i,i<d.size→∀y:Mv,Sem.run Tryz.prog (storeCells ⟨bx,0+i*5,none⟩ (bP y) 0) W=.ok () (W.setCells bx (0+i*5) (bP y)):=by
  intro d W h hs i hi y;obtain⟨cur,k1,k2,k3⟩:=h.row;have:=run_storeCells_cells (P:=Tryz.prog) bx (0+i*5) (bP y) 0 W (fun j hj=>?_) (fun j hj=>bQ k1) (qk y)
  ·simp_all
  ·rw[fD]at hj;rw[aw k1];grind
 have pt:∀{d:Array Mv} {W:World},dq w0 bx cap ty d W→d.size≤cap→∀i,i<d.size→∀y:Mv,dq w0 bx cap ty (d.setIfInBounds i y) (W.setCells bx (0+i*5) (bP y)):=by intro d W h hs i hi y;rw[Nat.zero_add];exact h.put hi hs y
 have hbs:∀{d:Array Mv} {W:World},dq w0 bx cap ty d W→bx<W.heap.size:=fun h=>by obtain⟨cur,k1,_⟩:=h.row;exact aB k1
 refine⟨fD,by grind,fun h=>⟨⟨h.1.os,h.1.tape,h.1.output,h.1.size,h.1.other,h.1.row⟩,h.2⟩,by grind,fun h i j hi hj y x=>st (pt h.1 h.2 i hi y) (by simpa using h.2) j (by simpa using hj) x,fun {d W} h i j hi hj=>⟨?_,by rw[size_swp];exact h.2⟩,fun {d W} h x y=>?_,fun _ _=>rfl⟩
 ·exact pt (pt h.1 h.2 i hi d[j]!) (by simpa using h.2) j (by simpa using hj) d[i]!
 ·have old:∀k,k<w.heap.size→W.heap[k]?=w.heap[k]? := fun k hk=>by rw[h.1.other k (Nat.lt_of_lt_of_le hk hb.size) (by omega),hb.block k hk]
  have hsz:w.heap.size≤W.heap.size:=by grind
  have hs:=amK x y p;unfold aX at hs;have hgW:cN W:=gO hg hsz old;obtain⟨args,ha⟩:∃args:Array Value,args=#[Value.agg (bP x).toArray,Value.agg (bP y).toArray]++#[Value.pointer (some ⟨pb,po,none⟩)]:=⟨_,rfl⟩;rw[←ha];refine Calls.mono (callsIn_wide.1 (hs W args hgW ?_)) ?_
  ·have e:(#[Value.agg (bP x).toArray,Value.agg (bP y).toArray]++#[Value.pointer (some ⟨pb,po,none⟩)]).toList=[Value.agg (bP x).toArray,Value.agg (bP y).toArray,Value.pointer (some ⟨pb,po,none⟩)]:=by simp
   rw[ha,e];have r1:aM (cH W) [] W (Mv.av x) (Value.agg (bP x).toArray) := .agg (mf _ _ _ x);have r2:aM (cH W) [] W (Mv.av y) (Value.agg (bP y).toArray) := .agg (mf _ _ _ y);refine .cons r1 (.cons r2 (.cons (.ptrf (cs:=pcs) (cd hp) ?_) .nil));intro j u hj;exact⟨by rw[b9 (old _ hpb)];exact hc j u hj,Nat.lt_of_lt_of_le hpb hsz⟩
  ·rintro e w' ⟨v,rfl,hbw,hv⟩;cases hv;refine⟨rfl,⟨hbw.os.trans h.1.os,hbw.tape.trans h.1.tape,hbw.output.trans h.1.output,Nat.le_trans h.1.size hbw.size,fun k hk hn=>by rw[hbw.block k (Nat.lt_of_lt_of_le hk h.1.size)];exact h.1.other k hk hn,?_⟩,h.2⟩;obtain⟨cur,k1,k2⟩:=h.1.row;exact⟨cur,by rw[hbw.block bx (aB k1)];exact k1,k2⟩
set_option maxHeartbeats 2000000 in
set_option maxRecDepth 100000 in
theorem alj (a:Option Addr)(c:Nat)(fv:Value)(w:World):Calls Tryz.prog 224 #[.slice a 0 c,.int .i64 0,.int .i64 0,fv] w fun e w'=>e=.returned (.tuple #[])∧w'=w:=by
 go_enter Tryz.func224,Tryz.ntmps224;go_wp2;go_loopg [8] 0 (fun _ s8 wr=>s8=.int .i64 1∧wr=w);case atStart=>exact⟨rfl,rfl⟩
 case round =>obtain⟨rfl,rfl⟩:=hrel;go_wp2;go_end0;exact⟨rfl,rfl⟩
set_option maxHeartbeats 2000000 in
set_option maxRecDepth 100000 in
theorem adM (a:Option Addr)(c:Nat)(fv:Value)(w:World):Calls Tryz.prog 170 #[.slice a 0 c,.int .i64 0,fv] w fun e w'=>e=.returned (.tuple #[])∧w'=w:=by
 have h:=alj a c fv w;go_enter Tryz.func170,Tryz.ntmps170;go_wp2;go_loopg [7,8] 0 (fun _ s7 s8 wr=>s7=.int .i64 0∧s8=.int .i64 20∧wr=w);case atStart=>simp_all
 case round =>
  obtain⟨rfl,rfl,rfl⟩:=hrel;go_wp2_with fail;refine h.mono ?_;rintro e w' ⟨rfl,rfl⟩;clear h;go_wp2;go_loopg [6] 0 (fun _ s6 wr=>s6=.int .i64 20∧wr=w');case atStart=>exact⟨rfl,rfl⟩
  case round =>obtain⟨rfl,rfl⟩:=hrel;go_wp2;go_end0;exact⟨rfl,rfl⟩
set_option maxHeartbeats 2000000 in
set_option maxRecDepth 100000 in
theorem adZ (a:Option Addr)(c:Nat)(fv:Value)(w:World):Calls Tryz.prog 104 #[.slice a 0 c,fv] w fun e w'=>e=.returned (.tuple #[])∧w'=w:=by have h:=adM a c fv w;go_enter Tryz.func104,Tryz.ntmps104;go_wp2_with fail;refine h.mono ?_;rintro e w' ⟨rfl,rfl⟩;go_wp2;go_end0;exact⟨rfl,rfl⟩
set_option maxHeartbeats 4000000 in
set_option maxRecDepth 100000 in
theorem ajH (p:Pos)(l:M')(hl:l.length≤qI):aX Tryz.prog 48 [Pos.av p,.list .mv l .arg] (.list .mv (DK p l) .fresh):=by
 intro w bw hg hr;obtain⟨bw⟩:=bw;cases hr with
 |cons q1 r1 =>
 cases r1 with
 |cons q2 r2 =>
 cases r2;obtain⟨pcs,rfl,hpc⟩:=aM.cM (l:=bf (Pos.av p)) q1;cases q2 with
 |list hn hE hS hT hC =>
 rename_i a n cap cs;subst hn;clear q1;refine callsIn_wide.2 ?_;have hw1:RowKit.Below w.heap.size w ((w.alloc (Obj.cells pcs 31)).alloc (Obj.cells #[Value.slice a l.length cap] 34)):=((Below.refl _ w).alloc (Nat.le_refl _) _).alloc (by simp) _;have hs1:((w.alloc (Obj.cells pcs 31)).alloc (Obj.cells #[Value.slice a l.length cap] 34)).heap.size=w.heap.size+2:=by simp
 have hg1:cN ((w.alloc (Obj.cells pcs 31)).alloc (Obj.cells #[Value.slice a l.length cap] 34)):=gO hg hw1.size hw1.block;have hbp:((w.alloc (Obj.cells pcs 31)).alloc (Obj.cells #[Value.slice a l.length cap] 34)).heap[w.heap.size]?=some (.cells pcs 31 (0,0)):=by have h0:=Below.heap_alloc (w.alloc (Obj.cells pcs 31)) (Obj.cells #[Value.slice a l.length cap] 34) w.heap.size (by simp);rw[h0];exact heap_alloc_new w _
 have hbs:((w.alloc (Obj.cells pcs 31)).alloc (Obj.cells #[Value.slice a l.length cap] 34)).heap[w.heap.size+1]?=some (.cells #[Value.slice a l.length cap] 34 (0,0)):=by
  have h0:=heap_alloc_new (w.alloc (Obj.cells pcs 31)) (Obj.cells #[Value.slice a l.length cap] 34);have h1:(w.alloc (Obj.cells pcs 31)).heap.size=w.heap.size+1:=by simp
  rw[h1]at h0;exact h0
 have hcs:=dH hE;have hrl:aM (cH ((w.alloc (Obj.cells pcs 31)).alloc (Obj.cells #[Value.slice a l.length cap] 34))) [] ((w.alloc (Obj.cells pcs 31)).alloc (Obj.cells #[Value.slice a l.length cap] 34)) (.list .mv l .arg) (.slice a l.length cap):=by refine .list (cs:=cs) rfl (by rw[hcs];exact iN _ _ _ _) (hS.imp id fun ⟨c,o,e1,e2,_⟩=>⟨c,o,e1,fun j x hj=>?_,fun f=>absurd rfl f⟩) (fun k e=>by cases e) hC;obtain⟨k1,k2⟩:=e2 j x hj;have hlt:c<w.heap.size:=k2;exact⟨by rw[b9 (hw1.block _ hlt)];exact k1,by show c<_;omega⟩
 have hj:=aev l hl _ hg1 (.slice (some ⟨w.heap.size+1,0,none⟩) 1 1) (.vlist (cs:=[.slice a l.length cap]) rfl (.cons rfl rfl (.one rfl hrl .nil) .nil) (.inr ⟨w.heap.size+1,0,rfl,fun j x hj=>by
  refine⟨?_,?_⟩
  ·simp_all
  ·show w.heap.size+1<_
   omega,fun f=>by cases f⟩) rfl)
 have hsort:∀(a':Option Addr) (cap':Nat) (w2:World),RowKit.Below ((w.alloc (Obj.cells pcs 31)).alloc (Obj.cells #[Value.slice a l.length cap] 34)).heap.size ((w.alloc (Obj.cells pcs 31)).alloc (Obj.cells #[Value.slice a l.length cap] 34)) w2 →
   ((a'=none∧l=[])∨∃b ty,a'=some ⟨b,0,none⟩∧((w.alloc (Obj.cells pcs 31)).alloc (Obj.cells #[Value.slice a l.length cap] 34)).heap.size≤b∧b<w2.heap.size∧l.length≤cap'∧dq w2 b cap' ty l.toArray w2) →
   Calls Tryz.prog 104 #[.slice a' l.length cap',.func (.func 105) #[] #[.pointer (some ⟨w.heap.size,0,none⟩)]] w2 fun e w'=>e=.returned (.tuple #[])∧RowKit.Below w.heap.size w w'∧aM (rK w w') [] w' (.list .mv (DK p l) .fresh) (.slice a' l.length cap'):=by
  intro a' cap' w2 hb2 hx
  have hb02:RowKit.Below w.heap.size w w2:=hw1.trans (hb2.mono (by omega))
  rcases hx with⟨rfl,rfl⟩|⟨b,ty,rfl,k1,k2,k3,hrow⟩
  ·refine(adZ none cap' _ w2).mono ?_
   rintro e w' ⟨rfl,rfl⟩
   refine⟨rfl,hb02,?_⟩
   have e0:DK p []=[]:=List.eq_nil_of_length_eq_zero (by rw[AN];rfl)
   rw[e0]
   exact .list (cs:=[]) rfl .nil (.inl rfl) (fun k e=>by cases e) (Nat.zero_le _)
  ·obtain⟨i0,z,a1,a2,a3,a4,a5⟩:=uZ
   have hp2:∀j x,pcs.toList[j]?=some x→((w.alloc (Obj.cells pcs 31)).alloc (Obj.cells #[Value.slice a l.length cap] 34)).cell? ⟨w.heap.size,0+j,none⟩=some x:=by simp_all
   have L:=atP p _ w2 hg1 hb2 b cap' ty k1 w.heap.size 0 pcs.toList (cd hpc) (by omega) hp2
   have hs:=Ap L (by simp_all) (by simp_all) cap' l.length l.toArray w2 (by simp) (by simp_all) (by unfold qI at hl;omega)
   refine hs.mono ?_
   rintro e w' ⟨rfl,hR,_⟩
   obtain⟨cur,c1,c2,c3⟩:=hR.row
   refine⟨rfl,⟨hR.os.trans hb02.os,hR.tape.trans hb02.tape,hR.output.trans hb02.output,by grind,fun k hk=>by
    rw[hR.other k (by omega) (by omega),hb02.block k hk]⟩,?_⟩
   have hlen:(DK p l).length=l.length:=AN p l
   refine .list (cs:=(DK p l).flatMap bP) hlen.symm (iN _ _ _ _) (.inr ⟨b,0,rfl,fun j x hj=>?_,fun _=>by show w.heap.size≤b;omega⟩) (fun k e=>by cases e) (by omega)
   have hjl:j<(DK p l).length*5:=by rw[←cZ];exact(by grind)
   have hdm:j=j / 5*5+j%5:=by omega
   have hq5:j / 5<(DK p l).length:=by omega
   have hfl:=eE (DK p l) (j / 5) (j%5) hq5 (by omega)
   rw[←hdm,hj]at hfl
   refine⟨?_,show w.heap.size≤b∧b<w'.heap.size from⟨by omega,aB c1⟩⟩
   rw[aw c1,Nat.zero_add]
   have h3:=c3 (j / 5) (j%5) (show j / 5<(sU (dO fun a b=>C9 a b p) l.toArray).toList.length from hq5) (by omega)
   rw[←hdm]at h3
   rw[h3,hfl]
   congr 2
   have ea:(DK p l)[j / 5]! = (DK p l)[j / 5]:=by simp[hq5]
   rw[ea]
   have hq6:j / 5<(sU (dO fun a b=>C9 a b p) l.toArray).size:=hq5
   have eb:=getElem!_pos (sU (dO fun a b=>C9 a b p) l.toArray) (j / 5) hq6
   rw[eb]
   simp[DK]
 have HJ:=Lib.hid hj;have HS:=Lib.hid hsort;clear hw1 hs1 hg1 hbp hbs hcs hrl hj hsort hS hT hE hC hpc hg;go_enter Tryz.func48,Tryz.ntmps48;go_wp2_with fail;refine HJ.out.mono ?_;rintro e w2 ⟨a',cap',rfl,hb2,hx⟩;have hc:=HS.out a' cap' w2 hb2 hx;clear HJ HS hb2 hx;go_wp2_with fail;refine hc.mono ?_;rintro e w3 ⟨rfl,hb3,hr3⟩;have HB:=Lib.hid hb3;have HR:=Lib.hid hr3;clear hb3 hr3 hc;go_wp2_with fail;go_ret;exact⟨_,rfl,HB.out,HR.out⟩
end Go.Proofs
namespace Kz
open Go Go.RowKit Go.Proofs
def anh:KT:=[]
def afc:ar:=bO Pz anh [] [] []
theorem agp:aO afc:=af ae trivial trivial trivial
def V66:AV:=AV.agg [AV.func 63 [] [],AV.func 179 [] [],AV.func 180 [] [],AV.func 181 [] []]
def ahd:Bool:=true
theorem alu:cP afc 14 118 []=Tr.ret V66:=by kernel_rfl
theorem as3 (_:ahd=true):PS Pz 118 [] V66:=nK agp (by rw[alu];rfl)
def ajM:GT:=g0 (.ret V66)
theorem aqx:Sound Pz 118 ajM:=vN (bH (as3 rfl))
def apo:KT:=[(227,5,[(0,[0,2]),(1,[2])])]
def akW:ar:=bO Pz apo [] [] []
theorem ahF:aO akW:=af ae trivial trivial trivial
def BM (a:Int):(Int×Int):=⟨(3),(a)⟩
def agP (a:Int):Bool:=true
theorem aoz (a:Int)(h:agP a=true):PS Pz 227 [.int .u8 a] ((dR .u8 .u8).res (BM a)):=pq14 ahF h
def T5:GT:=g1 (dI .u8) (fun a=>.ret ((dR .u8 .u8).res (BM a)))
theorem Yp:Sound Pz 227 T5:=aH fun a=>bH (aoz a rfl)
def atm:KT:=[(179,26,[(0,[1,2]),(1,[1,2,6]),(2,[2]),(3,[1,2,8]),(4,[2]),(5,[1,2,16]),(6,[2]),(7,[2])])]
def arh:ar:=bO Pz atm [(30,G30),(149,qF),(227,T5)] [] []
theorem agn:aO arh:=af ae ⟨s30,qS,Yp,trivial⟩ trivial trivial
def nT (a:Pos):(Int×Int):=(bif decide (Int.ofNat (dh a).length>0)then⟨(0),(0)⟩else(bif a.variant==4 then⟨(wr .u8 (1+a.aa)),(8)⟩else(bif ju a a.aa then⟨(wr .u8 (2-a.aa)),(1)⟩else⟨((BM 2).1),((BM 2).2)⟩)))
def F8 (a:Pos):Bool:=(Pf a&&(bif decide (Int.ofNat (dh a).length>0)then true else(bif a.variant==4 then true else(lZ a (a.aa)&&true))))
theorem ak6 (a:Pos)(h:F8 a=true):PS Pz 179 [Pos.av a] ((dR .u8 .u8).res (nT a)):=pq14 agn h
def agr:GT:=g1 aZ (fun a=>b7 (F8 a) ((dR .u8 .u8).res (nT a)))
theorem ani:Sound Pz 179 agr:=aH fun a=>aA (ak6 a)
def apD:KT:=[(258,12,[(0,[1,2]),(1,[4])])]
def apM:ar:=bO Pz apD [(147,gi)] [] []
theorem ahu:aO apM:=af ae ⟨gy,trivial⟩ trivial trivial
def eO (a:Pos)(b:Int):BitVec 64:=(aS a 0 b|||aS a 1 b)
def qn (a:Pos)(b:Int):Bool:=(cF a 0 b&&(cF a 1 b&&true))
theorem asm (a:Pos)(b:Int)(h:qn a b=true):PS Pz 258 [Pos.av a,.int .u8 b] (dU.res (eO a b)):=pq14 ahu h
def ahn:GT:=g2 aZ (dI .u8) (fun a b=>b7 (qn a b) (dU.res (eO a b)))
theorem ap9:Sound Pz 258 ahn:=aP fun a b=>aA (asm a b)
def aof:KT:=[(259,35,[(0,[0]),(1,[0]),(2,[0]),(3,[0]),(4,[0]),(5,[0]),(6,[0]),(7,[2])])]
def akY:ar:=bO Pz aof [] [] []
theorem aeE:aO akY:=af ae trivial trivial trivial
def kh (a:BitVec 64):Int:=(lz BinOp.and .i64 (wr .i64 ↑((((((a >>> 1&&&6148914691236517205#64)+(a&&&6148914691236517205#64)) >>> 2&&&3689348814741910323#64)+((a >>> 1&&&6148914691236517205#64)+(a&&&6148914691236517205#64)&&&3689348814741910323#64)) >>> 4+((((a >>> 1&&&6148914691236517205#64)+(a&&&6148914691236517205#64)) >>> 2&&&3689348814741910323#64)+((a >>> 1&&&6148914691236517205#64)+(a&&&6148914691236517205#64)&&&3689348814741910323#64))&&&1085102592571150095#64)+(((((a >>> 1&&&6148914691236517205#64)+(a&&&6148914691236517205#64)) >>> 2&&&3689348814741910323#64)+((a >>> 1&&&6148914691236517205#64)+(a&&&6148914691236517205#64)&&&3689348814741910323#64)) >>> 4+((((a >>> 1&&&6148914691236517205#64)+(a&&&6148914691236517205#64)) >>> 2&&&3689348814741910323#64)+((a >>> 1&&&6148914691236517205#64)+(a&&&6148914691236517205#64)&&&3689348814741910323#64))&&&1085102592571150095#64) >>> 8+((((((a >>> 1&&&6148914691236517205#64)+(a&&&6148914691236517205#64)) >>> 2&&&3689348814741910323#64)+((a >>> 1&&&6148914691236517205#64)+(a&&&6148914691236517205#64)&&&3689348814741910323#64)) >>> 4+((((a >>> 1&&&6148914691236517205#64)+(a&&&6148914691236517205#64)) >>> 2&&&3689348814741910323#64)+((a >>> 1&&&6148914691236517205#64)+(a&&&6148914691236517205#64)&&&3689348814741910323#64))&&&1085102592571150095#64)+(((((a >>> 1&&&6148914691236517205#64)+(a&&&6148914691236517205#64)) >>> 2&&&3689348814741910323#64)+((a >>> 1&&&6148914691236517205#64)+(a&&&6148914691236517205#64)&&&3689348814741910323#64)) >>> 4+((((a >>> 1&&&6148914691236517205#64)+(a&&&6148914691236517205#64)) >>> 2&&&3689348814741910323#64)+((a >>> 1&&&6148914691236517205#64)+(a&&&6148914691236517205#64)&&&3689348814741910323#64))&&&1085102592571150095#64) >>> 8) >>> 16+((((((a >>> 1&&&6148914691236517205#64)+(a&&&6148914691236517205#64)) >>> 2&&&3689348814741910323#64)+((a >>> 1&&&6148914691236517205#64)+(a&&&6148914691236517205#64)&&&3689348814741910323#64)) >>> 4+((((a >>> 1&&&6148914691236517205#64)+(a&&&6148914691236517205#64)) >>> 2&&&3689348814741910323#64)+((a >>> 1&&&6148914691236517205#64)+(a&&&6148914691236517205#64)&&&3689348814741910323#64))&&&1085102592571150095#64)+(((((a >>> 1&&&6148914691236517205#64)+(a&&&6148914691236517205#64)) >>> 2&&&3689348814741910323#64)+((a >>> 1&&&6148914691236517205#64)+(a&&&6148914691236517205#64)&&&3689348814741910323#64)) >>> 4+((((a >>> 1&&&6148914691236517205#64)+(a&&&6148914691236517205#64)) >>> 2&&&3689348814741910323#64)+((a >>> 1&&&6148914691236517205#64)+(a&&&6148914691236517205#64)&&&3689348814741910323#64))&&&1085102592571150095#64) >>> 8+((((((a >>> 1&&&6148914691236517205#64)+(a&&&6148914691236517205#64)) >>> 2&&&3689348814741910323#64)+((a >>> 1&&&6148914691236517205#64)+(a&&&6148914691236517205#64)&&&3689348814741910323#64)) >>> 4+((((a >>> 1&&&6148914691236517205#64)+(a&&&6148914691236517205#64)) >>> 2&&&3689348814741910323#64)+((a >>> 1&&&6148914691236517205#64)+(a&&&6148914691236517205#64)&&&3689348814741910323#64))&&&1085102592571150095#64)+(((((a >>> 1&&&6148914691236517205#64)+(a&&&6148914691236517205#64)) >>> 2&&&3689348814741910323#64)+((a >>> 1&&&6148914691236517205#64)+(a&&&6148914691236517205#64)&&&3689348814741910323#64)) >>> 4+((((a >>> 1&&&6148914691236517205#64)+(a&&&6148914691236517205#64)) >>> 2&&&3689348814741910323#64)+((a >>> 1&&&6148914691236517205#64)+(a&&&6148914691236517205#64)&&&3689348814741910323#64))&&&1085102592571150095#64) >>> 8) >>> 16) >>> 32).toNat) 127)
def ai2 (a:BitVec 64):Bool:=true
theorem ars (a:BitVec 64)(h:ai2 a=true):PS Pz 259 [.u64 a] ((dI .i64).res (kh a)):=pq14 aeE h
def Z1:GT:=g1 dU (fun a=>.ret ((dI .i64).res (kh a)))
theorem afS:Sound Pz 259 Z1:=aH fun a=>bH (ars a rfl)
def apP:KT:=[(228,68,[(0,(1::(rn 32 13 [59,60,61,64,65,66]))),(1,(1::3::(rn 32 13 [59,60,61,64,65,66]))),(2,(1::3::11::(rn 32 13 [59,60,61,64,65,66]))),(3,(1::3::11::12::(rn 32 13 [59,60,61,64,65,66]))),(4,(1::3::11::12::(rn 32 13 [59,60,61,64,65,66]))),(5,(1::4::(rn 32 13 []))),(6,(1::4::5::(rn 32 13 []))),(7,(4::5::27::(rn 32 13 []))),(8,[2]),(9,[2]),(10,[1,3,11,46,59,60,61,64,65,66]),(11,[1,3,46,59,60,61,64,65,66]),(12,[3,6,7,59,60,61,64,65,66]),(13,[2]),(14,[2])])]
def aoR:ar:=bO Pz apP [(193,uO),(258,ahn),(259,Z1),(147,gi)] [] []
theorem agh:aO aoR:=af ae ⟨xr,ap9,afS,gy,trivial⟩ trivial trivial
def E0 (a:Pos):Bool:=(bif a.variant==0 then(bif a.variant==0 then(bif bm a &&& ~~~eO a 6 &&& ~~~eO a 3 &&& ~~~eO a 2 != 0#64 then(false)else(bif decide (kh (bm a &&& ~~~eO a 6)≤1)then(true)else(bif bm a &&& ~~~eO a 6==eO a 3 then(bif bm a &&& ~~~eO a 6&&&6172840429334713770#64==0#64 then(true)else(bm a &&& ~~~eO a 6 &&& ~~~6172840429334713770#64==0#64))else(false))))else(bif a.variant==3 then(bif a.variant==3 then(bif bm a==aS a 0 6|||aS a 1 6 then(bif kh (aS a 0 6)==1 then(kh (aS a 1 6)==1)else(false))else(false))else(false))else(bif a.variant==5 then(bif bm a==aS a 0 6|||aS a 1 6 then(bif kh (aS a 0 6)==1 then(kh (aS a 1 6)==1)else(false))else(false))else(false))))else(bif a.variant==1 then(bif bm a &&& ~~~eO a 6 &&& ~~~eO a 3 &&& ~~~eO a 2 != 0#64 then(false)else(bif decide (kh (bm a &&& ~~~eO a 6)≤1)then(true)else(bif bm a &&& ~~~eO a 6==eO a 3 then(bif bm a &&& ~~~eO a 6&&&6172840429334713770#64==0#64 then(true)else(bm a &&& ~~~eO a 6 &&& ~~~6172840429334713770#64==0#64))else(false))))else(bif a.variant==3 then(bif a.variant==3 then(bif bm a==aS a 0 6|||aS a 1 6 then(bif kh (aS a 0 6)==1 then(kh (aS a 1 6)==1)else(false))else(false))else(false))else(bif a.variant==5 then(bif bm a==aS a 0 6|||aS a 1 6 then(bif kh (aS a 0 6)==1 then(kh (aS a 1 6)==1)else(false))else(false))else(false)))))
def CZ (a:Pos):Bool:=(sj a&&(bif a.variant==0 then(bif a.variant==0 then(qn a 6&&(qn a 3&&(qn a 2&&true)))else(bif a.variant==3 then(bif a.variant==3 then(cF a 0 6&&(cF a 1 6&&true))else true)else(bif a.variant==5 then(cF a 0 6&&(cF a 1 6&&true))else true)))else(bif a.variant==1 then(qn a 6&&(qn a 3&&(qn a 2&&true)))else(bif a.variant==3 then(bif a.variant==3 then(cF a 0 6&&(cF a 1 6&&true))else true)else(bif a.variant==5 then(cF a 0 6&&(cF a 1 6&&true))else true)))))
theorem al9 (a:Pos)(h:CZ a=true):PS Pz 228 [Pos.av a] (dB.res (E0 a)):=pq14 agh h
def aiM:GT:=g1 aZ (fun a=>b7 (CZ a) (dB.res (E0 a)))
theorem atk:Sound Pz 228 aiM:=aH fun a=>aA (al9 a)
def atF:KT:=[(180,7,[(0,[1,2]),(1,[2,4]),(2,[2]),(3,[2])])]
def amY:ar:=bO Pz atF [(228,aiM),(227,T5)] [] []
theorem agG:aO amY:=af ae ⟨atk,Yp,trivial⟩ trivial trivial
def vf (a:Pos):(Int×Int):=(bif E0 a then⟨((BM 3).1),((BM 3).2)⟩else⟨(0),(0)⟩)
def Gp (a:Pos):Bool:=(CZ a&&true)
theorem anf (a:Pos)(h:Gp a=true):PS Pz 180 [Pos.av a] ((dR .u8 .u8).res (vf a)):=pq14 agG h
def adx:GT:=g1 aZ (fun a=>b7 (Gp a) ((dR .u8 .u8).res (vf a)))
theorem asy:Sound Pz 180 adx:=aH fun a=>aA (anf a)
def amB:KT:=[(181,8,[(0,[1,2]),(1,[2,5]),(2,[2]),(3,[2])])]
def amm:ar:=bO Pz amB [(227,T5)] [] []
theorem aiP:aO amm:=af ae ⟨Yp,trivial⟩ trivial trivial
def wO (a:Pos):(Int×Int):=(bif decide (a.half≥150)then⟨((BM 4).1),((BM 4).2)⟩else⟨(0),(0)⟩)
def aeA (a:Pos):Bool:=true
theorem aqS (a:Pos)(h:aeA a=true):PS Pz 181 [Pos.av a] ((dR .u8 .u8).res (wO a)):=pq14 aiP h
def aiT:GT:=g1 aZ (fun a=>.ret ((dR .u8 .u8).res (wO a)))
theorem an5:Sound Pz 181 aiT:=aH fun a=>bH (aqS a rfl)
def K62:KT:=[(62,29,[(0,[1,2,10,11,12]),(1,[1,2,13]),(2,[2]),(3,[1,2,15,16]),(4,[1,2,15,16,17]),(5,[1,2,4,15,16]),(6,[1,2,5,15,16]),(7,[1,2,5,15,16,25]),(8,[2]),(9,[1,2,15,16]),(10,[2])])]
def B62:ar:=bO Pz K62 [(63,G63),(118,ajM),(179,agr),(180,adx),(181,aiT)] [] []
theorem aup:aO B62:=af ae ⟨s63,aqx,ani,asy,an5,trivial⟩ trivial trivial
def jo (a:Pos):(Int×Int):=(bif decide (a.variant≥9)then⟨(0),(0)⟩else(bif decide (a.aa>1)then⟨(0),(0)⟩else(bif(uC a).1 != 0 then⟨((uC a).1),((uC a).2)⟩else(bif(nT a).1 != 0 then⟨((nT a).1),((nT a).2)⟩else(bif(vf a).1 != 0 then⟨((vf a).1),((vf a).2)⟩else(bif(wO a).1 != 0 then⟨((wO a).1),((wO a).2)⟩else⟨(0),(0)⟩))))))
def UW (a:Pos):Bool:=(bif decide (a.variant≥9)then true else(bif decide (a.aa>1)then true else(BT a&&(bif(uC a).1 != 0 then true else(F8 a&&(bif(nT a).1 != 0 then true else(Gp a&&true)))))))
theorem P62 (a:Pos)(h:UW a=true):PS Pz 62 [Pos.av a] ((dR .u8 .u8).res (jo a)):=pq14 aup h
def G62:GT:=g1 aZ (fun a=>b7 (UW a) ((dR .u8 .u8).res (jo a)))
theorem s62:Sound Pz 62 G62:=aH fun a=>aA (P62 a)
def K29:KT:=[(29,7,[(0,[1]),(1,[2])])]
def B29:ar:=bO Pz K29 [(62,G62)] [] []
theorem al1:aO B29:=af ae ⟨s62,trivial⟩ trivial trivial
def N29 (a:Pos):Bool:=((jo a).1 != 0)
def aaU (a:Pos):Bool:=(UW a&&true)
theorem P29 (a:Pos)(h:aaU a=true):PS Pz 29 [Pos.av a] (dB.res (N29 a)):=pq14 al1 h
def G29:GT:=g1 aZ (fun a=>b7 (aaU a) (dB.res (N29 a)))
theorem s29:Sound Pz 29 G29:=aH fun a=>aA (P29 a)
end Kz
namespace Kz
open Go Go.RowKit
def cl (h f:Int)(p:Pos):Pos:=⟨p.variant,p.ab,p.ai,p.ah,p.aa,p.ao,p.az,p.au,h,f⟩
def aG.map {X X' R R':Type}(φ:X→X')(ψ:R→R'):aG X R→aG X' R'
 | .go x=>.go (φ x)
 | .out r=>.out (ψ r)
 | .bad=>.bad
noncomputable section
variable (h f:Int)(p:Pos)
end
noncomputable section
variable (h f h2 f2 h3 f3:Int)(a q p:Pos)(b m:Mv)(c:Int)
end
def mvd (p:Pos)(m:Mv):Pos:=df p m (c9 p m (dE p m (de p m (cV p m (cy p m (bT p m p p m (bC p m)) p m (bC p m)) p m (bC p m)) p m (bC p m)) p m (bC p m)) p m (bC p m)) p m (bC p m)
theorem GU (p:Pos)(m:Mv):du p m=bif !Kf (bR p) m then(p,false)else(mvd p m,true):=rfl
noncomputable section
variable {p:Pos}(hp:ax p)
include hp
variable {h f:Int}(hq:ax (cl h f p))
include hq
end
theorem arS (p:Pos)(b:Int):qn p b=true:=ak (t147 _ _ _) fun _=>ak (t147 _ _ _) fun _=>rfl
theorem t228 (p:Pos):CZ p=true:=by unfold CZ;repeat' (first|with_reducible rfl|with_reducible exact t193 _|with_reducible exact arS _ _|with_reducible exact t147 _ _ _|refine ak ?_ (fun _=>?_)|refine aq (fun _=>?_) (fun _=>?_))
theorem t180 (p:Pos):Gp p=true:=ak (t228 _) fun _=>rfl
theorem t179 {p:Pos}(hp:ax p):F8 p=true:=ak (t30 hp) fun _=>aq (fun _=>rfl) fun _=>aq (fun _=>rfl) fun _=>ak (t149 hp.v0 hp.t0) fun _=>rfl
theorem t62 {p:Pos}(hp:ax p):UW p=true:=aq (fun _=>rfl) fun _=>aq (fun _=>rfl) fun _=>ak (t63 hp) fun _=>aq (fun _=>rfl) fun _=>ak (t179 hp) fun _=>aq (fun _=>rfl) fun _=>ak (t180 p) fun _=>rfl
theorem zR {p:Pos}(h:¬there p):jo p=(0,0):=by
 unfold there at h;unfold jo;refine al (P:=fun r:Int×Int=>r=(0,0)) (fun _=>rfl) fun h1=>al (P:=fun r:Int×Int=>r=(0,0)) (fun _=>rfl) fun h2=>?_;have h1:p.variant<9:=by simpa using h1
 have h2:p.aa≤1:=by simpa using h2
 exact absurd ⟨h2,h1⟩ h
theorem qU {p:Pos}(h:there p):jo p=bif(uC p).1 != 0 then uC p else bif(nT p).1 != 0 then nT p else bif(vf p).1 != 0 then vf p else bif(wO p).1 != 0 then wO p else(0,0):=by obtain⟨h1,h2⟩:=h;unfold jo;rw[show decide (p.variant≥9)=false by simp;omega,show decide (p.aa>1)=false by simp;omega];rfl
theorem Gc (p:Pos):vf p=(3,3)∨vf p=(0,0):=by unfold vf;exact al (P:=fun r:Int×Int=>r=(3,3)∨r=(0,0)) (fun _=>.inl rfl) fun _=>.inr rfl
theorem H8 (p:Pos):(wO p=(3,4)∧150≤p.half)∨(wO p=(0,0)∧p.half<150):=by unfold wO;exact al (P:=fun r:Int×Int=>(r=(3,4)∧_)∨(r=(0,0)∧_)) (fun h=>.inl ⟨rfl,by simpa using h⟩) fun h=>.inr ⟨rfl,by simpa using h⟩
theorem F5 {p:Pos}(ht:there p)(hp:ax p)(h:(nT p).1≠0):(dh p).length=0∧(nT p=(1+p.aa,8)∨(nT p=(2-p.aa,1)∧ju p p.aa=true)∨(nT p=(3,2)∧ju p p.aa=false)):=by
 have t0:=hp.t0;have t1:=ht.1;revert h;unfold nT;rw[kD (n:=1+p.aa) (by omega) (by omega),kD (n:=2-p.aa) (by omega) (by omega)];refine al (P:=fun r:Int×Int=>r.1≠0→(dh p).length=0∧(r=(1+p.aa,8)∨(r=(2-p.aa,1)∧ju p p.aa=true)∨(r=(3,2)∧ju p p.aa=false))) (fun _ h=>absurd rfl h) fun hl=>?_;have hl:(dh p).length=0:=by simpa using hl
 refine al (P:=fun r:Int×Int=>r.1≠0→(dh p).length=0∧(r=(1+p.aa,8)∨(r=(2-p.aa,1)∧ju p p.aa=true)∨(r=(3,2)∧ju p p.aa=false))) (fun _ _=>⟨hl,.inl rfl⟩) fun _=>al (P:=fun r:Int×Int=>r.1≠0→(dh p).length=0∧(r=(1+p.aa,8)∨(r=(2-p.aa,1)∧ju p p.aa=true)∨(r=(3,2)∧ju p p.aa=false))) (fun hk _=>⟨hl,.inr (.inl ⟨rfl,hk⟩)⟩) fun hk _=>⟨hl,.inr (.inr ⟨rfl,hk⟩)⟩
noncomputable section
variable {p:Pos}(hp:ax p){h f:Int}(hq:ax (cl h f p))
include hp hq
end
def U8 (r:Int×Int):Prop:=(0≤r.1∧r.1≤255)∧(0≤r.2∧r.2≤255)
theorem aau {p:Pos}(hp:ax p):U8 (jo p):=by
 have z:U8 (0,0):=by unfold U8;simp
 by_cases ht:there p
 ·rw[qU ht];have t0:=hp.t0;have t1:=ht.1;refine al (P:=U8) (fun _=>?_) fun _=>al (P:=U8) (fun h=>?_) fun _=>al (P:=U8) (fun _=>?_) fun _=>al (P:=U8) (fun _=>?_) fun _=>z
  ·rcases(Gj hp).1 with w|⟨w1,w2⟩|w
   ·rw[w];exact z
   ·unfold U8;omega
   ·rw[w];unfold U8;simp
  ·have h0:(nT p).1≠0:=by simpa using h
   obtain⟨_,e|⟨e,_⟩|⟨e,_⟩⟩:=F5 ht hp h0
   ·rw[e];unfold U8;simp;omega
   ·rw[e];unfold U8;simp;omega
   ·rw[e];unfold U8;simp
  ·rcases Gc p with e|e
   ·rw[e];unfold U8;simp
   ·rw[e];exact z
  ·rcases H8 p with⟨e,_⟩|⟨e,_⟩
   ·rw[e];unfold U8;simp
   ·rw[e];exact z
 ·rw[zR ht];exact z
end Kz
namespace Go.Proofs
open Go.Shelf Go.RowKit Go.Lib Go.Sort
set_option maxHeartbeats 1000000 in
set_option maxRecDepth 100000 in
theorem aty (p:Kz.Mv→Bool)(g:Nat)(lb:Array Value)(eg:∀args w,(callFunc g args).run Tryz.prog w=.ok (.enter g args) w)(bx cap:Nat)(d:Array Kz.Mv)(w:World)(ty:TypeId)(hb:bx<w.heap.size)(hH:dq w bx cap ty d w)(hcap:d.size≤cap)(hmax:cap≤maxLen)
  (hpo:∀W dk x,dq w bx cap ty dk W→Calls Tryz.prog g (#[.agg (bP x).toArray]++lb) W fun e w'=>e=.returned (.bool (p x))∧RowKit.Below W.heap.size W w') :
  Calls Tryz.prog 49 #[.slice (some ⟨bx,0,none⟩) d.size cap,.func (.func g) #[] lb] w fun e w'=>e=.returned (.slice (some ⟨bx,0,none⟩) (d.toList.filter fun x => !p x).length cap)∧dq w bx cap ty (d.toList.filter fun x => !p x).toArray w':=by
 have hsz:d.size≤9223372036854775807:=by unfold maxLen at hmax;omega
 have e6:∀args w,(callFunc 110 args).run Tryz.prog w=.ok (.enter 110 args) w:=fun args w=>by rfl
 have hp:PredBelow Tryz.prog g lb (fun x=>.agg (bP x).toArray) p w:=fun W x hB=>(hpo W d x (hH.below hb hB)).mono fun e w' ⟨h1,h2⟩=>⟨h1,hB.trans (h2.mono hB.size)⟩
 have hIF:=AnyQ.slices_IndexFunc Tryz.ajo 5 Tryz.isAgg47 Tryz.sizeOf47 bP fD p g lb eg bx 0 d.size cap d.toList w hp (by simp) hsz hb (fun j hj i v hi=>by
  have hi5:i<5:=(C'.1 hi).1
  have hj':j<d.size:=by simpa using hj
  obtain⟨cur,h1,h2,h3⟩:=hH.row
  rw[Kz.aw h1,Nat.zero_add,h3 j i hj' hi5]
  simp_all)
 rw[show d.toList.take d.size=d.toList from List.take_of_length_le (by simp)]at hIF;have tl:∀j,j<d.size→d.toList[j]! = d[j]! := by simp_all
 obtain⟨kp,HK⟩:∃kp:Nat→Bool,Hid (kp=fun j => !p d[j]!):=⟨_,rfl⟩;have hfil:(d.toList.filter fun x => !p x)=keptUpTo kp d d.size:=by rw[HK.out];exact(keptUpTo_filter (fun x => !p x) d).symm
 rw[hfil];rcases idxByFrom_spec (fun _ y=>p y) default d.toList 0 with⟨e1,hall⟩|⟨k0,hk0,e1,ht,hall⟩
 ·have e2:Lib.idxBy (fun _ y=>p y) d.toList default = -1:=e1;rw[e2]at hIF;have hkeep:∀j,j<d.size→kp j=true:=fun j hj=>by rw[HK.out];simp_all
  have e3:keptUpTo kp d d.size=d.toList:=by rw[keptUpTo_all kp d _ hkeep,range_map_get]
  have HH:Aside (dq w bx cap ty d w):=hH;have HB:Hid (bx<w.heap.size):=hb;clear hH hpo hp hb;go_enter Tryz.func49,Tryz.ntmps49;go_wp2_with (go_at_fn 110;refine hIF.mono ?_;rintro e w' ⟨rfl,hbl⟩);go_ret;rw[e3];exact⟨by simp,by simpa using HH.out.below HB.out hbl⟩
 ·have hk0':k0<d.size:=by simpa using hk0
  have e2:Lib.idxBy (fun _ y=>p y) d.toList default=(k0:Int):=by unfold Lib.idxBy;rw[e1];simp
  rw[e2]at hIF;have hkeep:∀j,j<k0→kp j=true:=fun j hj=>by rw[HK.out];grind
  have hdrop:kp k0=false:=by rw[HK.out];show(!p d[k0]!)=false;rw[←tl k0 hk0'];rw[show p d.toList[k0]! = true from ht];rfl
  have hne1:((k0:Int) == -1)=false:=by simp_all
  have HC:Aside _:=hpo;have HH:Aside (dq w bx cap ty d w):=hH;have HB:Hid (bx<w.heap.size):=hb;clear hpo hp hH hb hall ht e1 e2 tl;go_enter Tryz.func49,Tryz.ntmps49;go_wp2_with (go_at_fn 110;refine hIF.mono ?_;rintro e w' ⟨rfl,hbl⟩);have HBL:=Lib.hid hbl;clear hbl;go_loopg [5,6,7] d.size (fun gg s5 s6 _ wr=>∃(i j:Nat) (dk:Array Kz.Mv),s5=.int .i64 i∧s6=.int .i64 j∧j≤d.size∧d.size-j≤gg∧Aside (dq w bx cap ty dk wr)∧Aside (KeptInv kp d j i dk));case atStart=>exact⟨k0,k0+1,d,rfl,by go_num,by omega,by omega,HH.out.below HB.out HBL.out,KeptInv.start hkeep hdrop⟩
  case round =>
   obtain⟨i,j,dk,rfl,rfl,hjd,hgg,W2,I2⟩:=hrel;have hI:=I2.out;have hij:=hI.lt;have hds:=hI.size;by_cases hlt:j<d.size
   ·have hltz:(j:Int)<(d.size:Int):=by omega
    have c0:=(W2.out.cell (j:=j) (by omega) 0 (by omega)).1;have c1:=(W2.out.cell (j:=j) (by omega) 1 (by omega)).1;have c2:=(W2.out.cell (j:=j) (by omega) 2 (by omega)).1;have c3:=(W2.out.cell (j:=j) (by omega) 3 (by omega)).1;have c4:=(W2.out.cell (j:=j) (by omega) 4 (by omega)).1;simp only[hI.high j (by omega),bP,List.getElem_cons_succ,List.getElem_cons_zero,Nat.add_zero]at c0 c1 c2 c3 c4;clear hI;generalize hu:d[j]! = u at c0 c1 c2 c3 c4;have C:Aside (d[j]! = u):=hu;clear hu
    have hW1:dq w bx cap ty dk (wr.alloc (Obj.cells #[Value.int IntKind.i8 u.aD,Value.int IntKind.i8 u.to,Value.int IntKind.u8 u.bU,Value.int IntKind.u8 u.bh,Value.bool u.bZ] 47)) :=
     W2.out.below HB.out ((Below.refl _ _).alloc (Nat.le_refl _) _)
    have hcall:Calls Tryz.prog g (#[Value.agg #[Value.int IntKind.i8 u.aD,Value.int IntKind.i8 u.to,Value.int IntKind.u8 u.bU,Value.int IntKind.u8 u.bh,Value.bool u.bZ]]++lb) _ _:=HC.out _ dk u hW1;have HW1:=Lib.hid hW1;clear hW1;cases hq:p u with
    |false =>
     rw[hq]at hcall;have HCALL:=Lib.hid hcall;clear hcall;go_wp2_with fail;refine HCALL.out.mono ?_;rintro e w2 ⟨rfl,hb2⟩;have hW2:=HW1.out.below HB.out hb2;have r0:=hW2.cell (j:=i) (by omega) 0 (by omega);have r1:=hW2.cell (j:=i) (by omega) 1 (by omega);have r2:=hW2.cell (j:=i) (by omega) 2 (by omega);have r3:=hW2.cell (j:=i) (by omega) 3 (by omega);have r4:=hW2.cell (j:=i) (by omega) 4 (by omega);simp only[Nat.add_zero]at r0;obtain⟨r0,f0⟩:=r0;obtain⟨r1,f1⟩:=r1;obtain⟨r2,f2⟩:=r2;obtain⟨r3,f3⟩:=r3;obtain⟨r4,f4⟩:=r4;have hcs:∀c,w2.cell? ⟨wr.heap.size,c,none⟩=(#[Value.int IntKind.i8 u.aD,Value.int IntKind.i8 u.to,Value.int IntKind.u8 u.bU,Value.int IntKind.u8 u.bh,Value.bool u.bZ]:Array Value)[c]? := fun c=>by rw[hb2.cell (p:=⟨wr.heap.size,c,none⟩) (by simp),Kz.aw (heap_alloc_new wr _)]
     have b0:=hcs 0;have b1:=hcs 1;have b2:=hcs 2;have b3:=hcs 3;have b4:=hcs 4;simp at b0 b1 b2 b3 b4;have HW2:=Lib.hid hW2;clear hcs hb2 hW2;go_wp2_with fail;go_roundg (d.size-(j+1));case measure=>omega
     case rel =>refine⟨i+1,j+1,dk.setIfInBounds i u,by go_num,by go_num,by omega,Nat.le_refl _,HW2.out.put (i:=i) (by omega) (by omega) u,(show Aside _ from ?_)⟩;have:=I2.out.keep hlt (by rw[HK.out];show(!p d[j]!)=true;rw[C.out,hq];rfl);rwa[C.out]at this
    |true =>
     rw[hq]at hcall;have HCALL:=Lib.hid hcall;clear hcall;go_wp2_with fail;refine HCALL.out.mono ?_;rintro e w2 ⟨rfl,hb2⟩;have HW2:=Lib.hid (HW1.out.below HB.out hb2);clear hb2;go_wp2_with fail;go_roundg (d.size-(j+1));case measure=>omega
     case rel=>exact⟨i,j+1,dk,rfl,by go_num,by omega,Nat.le_refl _,HW2.out,I2.out.skip (by rw[HK.out];show(!p d[j]!)=false;rw[C.out,hq];rfl)⟩
   ·obtain rfl:j=d.size:=by omega
    have hltz:¬(d.size:Int)<(d.size:Int):=by omega
    have hcl:∀ty,(Builtin.clear_ #[34] ty #[.slice (some ⟨bx,i*5,none⟩) (d.size-i) (cap-i)]).run Tryz.prog wr=.ok (.tuple #[]) (wr.setCells bx (i*5) (Builtin.zeroCells jW (d.size-i)).toList):=by
     obtain⟨cur,h1,h2,h3⟩:=W2.out.row;refine we wr bx (i*5) (d.size-i) (cap-i) (by omega) (fun t ht=>?_) (fun t ht=>Kz.bQ h1);rw[Kz.aw h1];have:d.size*5≤cap*5:=by omega
     have h5:(d.size-i)*5=d.size*5-i*5:=Nat.sub_mul _ _ _;rw[Array.getElem?_eq_getElem (by omega)];rfl
    have hid:i≤d.size:=by omega
    clear hI;go_wp2;go_ret;have hI:=I2.out;refine⟨by rw[hI.len];rfl,?_⟩;have:=W2.out.tail (i:=i) (n:=d.size-i) (by omega) (by omega) _ (nh (d.size-i));have e:keptUpTo kp d d.size=dk.toList.take i:=by
     have hsz':=hI.size;apply List.ext_getElem?;intro j;by_cases hj:j<i
     ·rw[hI.low j hj,List.getElem?_take_of_lt hj,getElem!_pos dk j (by omega),I' (by simp;omega)];simp
     ·rw[List.getElem?_eq_none (by rw[hI.len];omega),List.getElem?_eq_none (by simp;omega)]
    grind
end Go.Proofs
