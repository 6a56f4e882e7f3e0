/- Part 5 of the proof. -/
import Derived.Test.YtgbndomcmihfkaaGreatDoorE4
import Derived.Deep.RegionWith
set_option linter.unusedSectionVars false
set_option linter.unusedVariables false
set_option linter.unusedSimpArgs false
set_option linter.unnecessarySimpa false
set_option maxRecDepth 100000
set_option maxHeartbeats 4000000
noncomputable section
namespace Kz
open Go Go.RowKit Go.Proofs
def Rm:KT:=[(191,81,[(0,(1::2::3::6::(rn 64 4 (rn 70 4 [])))),(1,(1::2::3::6::8::9::(rn 64 4 (rn 70 4 [])))),(2,(1::2::3::6::8::26::(rn 64 4 (rn 70 4 [])))),(3,[6,7]),(4,(1::3::6::8::10::(rn 64 4 (rn 70 4 [])))),(5,(1::3::6::8::11::12::(rn 64 4 (rn 70 4 [])))),(6,(1::3::6::8::11::12::13::(rn 64 4 (rn 70 4 [])))),(7,(1::3::6::8::11::12::13::(rn 64 4 (rn 70 4 [])))),(8,(1::3::6::8::(rn 11 4 (rn 64 4 (rn 70 4 []))))),(9,(1::3::6::8::11::12::13::15::(rn 64 4 (rn 70 4 [])))),(10,(1::3::6::8::11::12::13::15::16::(rn 64 4 (rn 70 4 [])))),(11,(1::6::8::11::12::15::17::(rn 64 4 (rn 70 4 [])))),(12,[1,6,8,9]),(13,[6,7])]),(196,4,[(0,[0]),(1,[0])]),(239,10,[(0,[0,1]),(1,[3])]),(240,25,[(0,(rn 0 4 (rn 10 5 (rn 17 7 [])))),(1,[5])]),(241,16,[(0,[0,1,5,6]),(1,[5,6,10]),(2,[5,6,7]),(3,[6,15]),(4,[]),(5,[6])]),(267,6,[(0,[2,3]),(1,[4])]),(277,19,[(0,[0,1,2,4]),(1,[0,1,2,4,12]),(2,[0,1,2,4]),(3,[0,1,2,4,18])])]
def ZI:ar:=bO Pz Rm [(147,gh),(190,Am),(193,tQ),(199,zP),(205,Jq),(238,Ob)] [] []
theorem TD:aP ZI:=ae af ⟨gm,DH,xD,Cy,KZ,SN,trivial⟩ trivial trivial
def Q6 (p1:Pos)(p2:Z')(p3:Pos)(p4:(BitVec 64))(p5:(BitVec 64))(p6:Int)(p7:Int)(x:(Int)):St:=St.mk (.yield 0::.ptr 8 0::.ptr 9 0::.any::.int .i64 x::(an 14 [])) (Hp.mk [(pc p1 []),[.int .i8 0,.int .i8 0,.int .u8 0,.int .u8 0,.bool false],[.ints .i64 2 p2],(pc p3 []),[.u64 p4],[.u64 p5],[.func 239 [] [.ptr 4 0]],[.bool false],[.int .i64 p6],[.int .i64 p7]] [] [eF.mk 0 none 241 (an 5 (.ptr 6 0::.ptr 7 0::(an 3 (.func 277 [] [.ptr 8 0,.ptr 9 0]::(an 5 []))))) [11] (sr Pz 241 3) (so Pz 241 3)] 0 0 0)
def Kn (p1:Pos)(p2:Z')(p3:Pos)(p4:(BitVec 64))(p5:(BitVec 64))(p6:Int)(p7:Int):(Int) ⊕ (Int×Bool)→Out
 |(.inl (y))=>.ret (St.mk (AV.yield 0::AV.ptr 8 0::AV.ptr 9 0::AV.any::AV.int .i64 y::(an 13 [AV.aU true])) (Hp.mk [(pc p1 []),[AV.int .i8 0,AV.int .i8 0,AV.int .u8 0,AV.int .u8 0,AV.bool false],[AV.ints .i64 2 p2],(pc p3 []),[AV.u64 p4],[AV.u64 p5],[AV.func 239 [] [AV.ptr 4 0]],[AV.aU false],[AV.int .i64 p6],[AV.int .i64 p7]] [] [eF.mk 2 (some Code.ret) 241 (an 5 (AV.ptr 6 0::AV.ptr 7 0::(an 3 (AV.func 277 [] [AV.ptr 8 0,AV.ptr 9 0]::(an 5 []))))) [11] (sr Pz 241 3) (so Pz 241 3)] 0 0 0))
 |(.inr (y))=>.exit 0 (St.mk (AV.yield 0::AV.ptr 8 0::AV.ptr 9 0::AV.any::AV.int .i64 y.1::(an 7 (AV.bool y.2::(an 6 [])))) (Hp.mk [(pc p1 []),[AV.int .i8 0,AV.int .i8 0,AV.int .u8 0,AV.int .u8 0,AV.bool false],[AV.ints .i64 2 p2],(pc p3 []),[AV.u64 p4],[AV.u64 p5],[AV.func 239 [] [AV.ptr 4 0]],[AV.bool false],[AV.int .i64 p6],[AV.int .i64 p7]] [] [eF.mk 0 none 241 (an 5 (AV.ptr 6 0::AV.ptr 7 0::(an 3 (AV.func 277 [] [AV.ptr 8 0,AV.ptr 9 0]::(an 5 []))))) [11] (sr Pz 241 3) (so Pz 241 3)] 0 0 0))
def zN (p1:Pos)(p2:Z')(p3:Pos)(p4:(BitVec 64))(p5:(BitVec 64))(p6:Int)(p7:Int)(x:(Int)):aG (Int) ((Int) ⊕ (Int×Bool)):=(bif decide (x≤if p7>p6 then p7 else p6)then(bif !p4 >>> (BitVec.ofInt 64 x).toNat&&&1#64==0#64 then(aG.out (.inl x))else(aG.go (wr .i64 (x+1))))else(aG.out (.inr ((x,decide (x≤if p7>p6 then p7 else p6))))))
def Ng (p1:Pos)(p2:Z')(p3:Pos)(p4:(BitVec 64))(p5:(BitVec 64))(p6:Int)(p7:Int)(x:(Int)):Bool:=true
def eR (p1:Pos)(p2:Z')(p3:Pos)(p4:(BitVec 64))(p5:(BitVec 64))(p6:Int)(p7:Int)(x:(Int)):Option ((Int) ⊕ (Int×Bool)):=cW (fun x=>bif Ng p1 p2 p3 p4 p5 p6 p7 x then zN p1 p2 p3 p4 p5 p6 p7 x else .bad) many x
abbrev Pb {α:Type}(k:Pos→Z'→Pos→(BitVec 64)→(BitVec 64)→Int→Int→(Int)→α)(s:St):α:=wP s 0 fun q0=>wP s 3 fun q3=>k q0 (tN (tH s 2 0)) q3 (tU (tH s 4 0)) (tU (tH s 5 0)) (tI (tH s 8 0)) (tI (tH s 9 0)) ((tI (tT s 4)))
theorem aae (p1:Pos)(p2:Z')(p3:Pos)(p4:(BitVec 64))(p5:(BitVec 64))(p6:Int)(p7:Int)(x:(Int))(r:(Int) ⊕ (Int×Bool))(h:eR p1 p2 p3 p4 p5 p6 p7 x=some r):aC Pz (bc Pz 277 1) (Q6 p1 p2 p3 p4 p5 p6 p7 x) (Kn p1 p2 p3 p4 p5 p6 p7 r):=aC.Be (m:=12) (fn:=277) TD (Pb fun _ _ _ _ _ _ _ x=>some x) (fun o=>match o with | .ret s=>some (.inl (tI (tT s 4))) | .exit 0 s=>some (.inr ((tI (tT s 4)),(tB (tT s 12))))|_=>none) (fun r=>by cases r<;>rfl) (fun _=>by kernel_rfl) (fun _=>by kernel_rfl) (fun _=>by kernel_rfl) (fun _=>by kernel_rfl) many x r h
def AS (b:Code)(s:St):Tr Out:=Pb (fun p1 p2 p3 p4 p5 p6 p7 x=>Bg b (bc Pz 277 1) s (Q6 p1 p2 p3 p4 p5 p6 p7 x) (eR p1 p2 p3 p4 p5 p6 p7 x) (Kn p1 p2 p3 p4 p5 p6 p7)) s
theorem zt:∀b,aT Pz b (AS b):=fun _ _ _ h=>eZ (aae _ _ _ _ _ _ _ _) h
def YY:ar:=bO Pz Rm [(147,gh),(190,Am),(193,tQ),(199,zP),(205,Jq),(238,Ob)] [(277,1,AS)] []
theorem UR:aP YY:=ae af ⟨gm,DH,xD,Cy,KZ,SN,trivial⟩ ⟨zt,trivial⟩ trivial
def L1 (p1:Pos)(p2:Z')(p3:Pos)(p4:(BitVec 64))(p5:(BitVec 64))(p6:Int)(p7:Int)(p8:Int)(p9:Int)(x:(Int)):St:=St.mk (.yield 1::.ptr 12 0::.ptr 13 0::.any::.int .i64 x::(an 14 [])) (Hp.mk [(pc p1 []),[.int .i8 0,.int .i8 0,.int .u8 0,.int .u8 0,.bool false],[.ints .i64 2 p2],(pc p3 []),[.u64 p4],[.u64 p5],[.func 239 [] [.ptr 4 0]],[.bool true],[.int .i64 p6],[.int .i64 p7],[.func 239 [] [.ptr 4 0]],[.bool false],[.int .i64 p8],[.int .i64 p9]] [] [eF.mk 3 none 241 (an 5 (.ptr 6 0::.ptr 7 0::(an 3 (.func 277 [] [.ptr 8 0,.ptr 9 0]::(an 5 []))))) [11] (sr Pz 241 3) (so Pz 241 3),eF.mk 0 none 241 (an 5 (.ptr 10 0::.ptr 11 0::(an 3 (.func 277 [] [.ptr 12 0,.ptr 13 0]::(an 5 []))))) [11] (sr Pz 241 3) (so Pz 241 3)] 0 0 0)
def L8 (p1:Pos)(p2:Z')(p3:Pos)(p4:(BitVec 64))(p5:(BitVec 64))(p6:Int)(p7:Int)(p8:Int)(p9:Int):(Int) ⊕ (Int×Bool)→Out
 |(.inl (y))=>.ret (St.mk (AV.yield 1::AV.ptr 12 0::AV.ptr 13 0::AV.any::AV.int .i64 y::(an 13 [AV.aU true])) (Hp.mk [(pc p1 []),[AV.int .i8 0,AV.int .i8 0,AV.int .u8 0,AV.int .u8 0,AV.bool false],[AV.ints .i64 2 p2],(pc p3 []),[AV.u64 p4],[AV.u64 p5],[AV.func 239 [] [AV.ptr 4 0]],[AV.bool true],[AV.int .i64 p6],[AV.int .i64 p7],[AV.func 239 [] [AV.ptr 4 0]],[AV.aU false],[AV.int .i64 p8],[AV.int .i64 p9]] [] [eF.mk 3 none 241 (an 5 (AV.ptr 6 0::AV.ptr 7 0::(an 3 (AV.func 277 [] [AV.ptr 8 0,AV.ptr 9 0]::(an 5 []))))) [11] (sr Pz 241 3) (so Pz 241 3),eF.mk 2 (some Code.ret) 241 (an 5 (AV.ptr 10 0::AV.ptr 11 0::(an 3 (AV.func 277 [] [AV.ptr 12 0,AV.ptr 13 0]::(an 5 []))))) [11] (sr Pz 241 3) (so Pz 241 3)] 0 0 0))
 |(.inr (y))=>.exit 0 (St.mk (AV.yield 1::AV.ptr 12 0::AV.ptr 13 0::AV.any::AV.int .i64 y.1::(an 7 (AV.bool y.2::(an 6 [])))) (Hp.mk [(pc p1 []),[AV.int .i8 0,AV.int .i8 0,AV.int .u8 0,AV.int .u8 0,AV.bool false],[AV.ints .i64 2 p2],(pc p3 []),[AV.u64 p4],[AV.u64 p5],[AV.func 239 [] [AV.ptr 4 0]],[AV.bool true],[AV.int .i64 p6],[AV.int .i64 p7],[AV.func 239 [] [AV.ptr 4 0]],[AV.bool false],[AV.int .i64 p8],[AV.int .i64 p9]] [] [eF.mk 3 none 241 (an 5 (AV.ptr 6 0::AV.ptr 7 0::(an 3 (AV.func 277 [] [AV.ptr 8 0,AV.ptr 9 0]::(an 5 []))))) [11] (sr Pz 241 3) (so Pz 241 3),eF.mk 0 none 241 (an 5 (AV.ptr 10 0::AV.ptr 11 0::(an 3 (AV.func 277 [] [AV.ptr 12 0,AV.ptr 13 0]::(an 5 []))))) [11] (sr Pz 241 3) (so Pz 241 3)] 0 0 0))
def zg (p1:Pos)(p2:Z')(p3:Pos)(p4:(BitVec 64))(p5:(BitVec 64))(p6:Int)(p7:Int)(p8:Int)(p9:Int)(x:(Int)):aG (Int) ((Int) ⊕ (Int×Bool)):=(bif decide (x≤if p9>p8 then p9 else p8)then(bif !p4 >>> (BitVec.ofInt 64 x).toNat&&&1#64==0#64 then(aG.out (.inl x))else(aG.go (wr .i64 (x+1))))else(aG.out (.inr ((x,decide (x≤if p9>p8 then p9 else p8))))))
def Nu (p1:Pos)(p2:Z')(p3:Pos)(p4:(BitVec 64))(p5:(BitVec 64))(p6:Int)(p7:Int)(p8:Int)(p9:Int)(x:(Int)):Bool:=true
def eQ (p1:Pos)(p2:Z')(p3:Pos)(p4:(BitVec 64))(p5:(BitVec 64))(p6:Int)(p7:Int)(p8:Int)(p9:Int)(x:(Int)):Option ((Int) ⊕ (Int×Bool)):=cW (fun x=>bif Nu p1 p2 p3 p4 p5 p6 p7 p8 p9 x then zg p1 p2 p3 p4 p5 p6 p7 p8 p9 x else .bad) many x
abbrev O6 {α:Type}(k:Pos→Z'→Pos→(BitVec 64)→(BitVec 64)→Int→Int→Int→Int→(Int)→α)(s:St):α:=wP s 0 fun q0=>wP s 3 fun q3=>k q0 (tN (tH s 2 0)) q3 (tU (tH s 4 0)) (tU (tH s 5 0)) (tI (tH s 8 0)) (tI (tH s 9 0)) (tI (tH s 12 0)) (tI (tH s 13 0)) ((tI (tT s 4)))
theorem abY (p1:Pos)(p2:Z')(p3:Pos)(p4:(BitVec 64))(p5:(BitVec 64))(p6:Int)(p7:Int)(p8:Int)(p9:Int)(x:(Int))(r:(Int) ⊕ (Int×Bool))(h:eQ p1 p2 p3 p4 p5 p6 p7 p8 p9 x=some r):aC Pz (bc Pz 277 1) (L1 p1 p2 p3 p4 p5 p6 p7 p8 p9 x) (L8 p1 p2 p3 p4 p5 p6 p7 p8 p9 r):=aC.Be (m:=12) (fn:=277) UR (O6 fun _ _ _ _ _ _ _ _ _ x=>some x) (fun o=>match o with | .ret s=>some (.inl (tI (tT s 4))) | .exit 0 s=>some (.inr ((tI (tT s 4)),(tB (tT s 12))))|_=>none) (fun r=>by cases r<;>rfl) (fun _=>by kernel_rfl) (fun _=>by kernel_rfl) (fun _=>by kernel_rfl) (fun _=>by kernel_rfl) many x r h
def EL (b:Code)(s:St):Tr Out:=O6 (fun p1 p2 p3 p4 p5 p6 p7 p8 p9 x=>Bg b (bc Pz 277 1) s (L1 p1 p2 p3 p4 p5 p6 p7 p8 p9 x) (eQ p1 p2 p3 p4 p5 p6 p7 p8 p9 x) (L8 p1 p2 p3 p4 p5 p6 p7 p8 p9)) s
theorem Hg:∀b,aT Pz b (EL b):=fun _ _ _ h=>eZ (abY _ _ _ _ _ _ _ _ _ _) h
abbrev cs191_1 (s:St):Bool:=Kz.shp [0,1,2,4] s==[50,228,244,3,10,3,7,4,7,3,7,3,7,3,3,5,3,3,3,3,2,1,7,10,3,7,4,7,3,7,3,7,3,3,1,4,1,4,1,1239,1,2,1,3,1,3,241]
abbrev cs191_2 (s:St):Bool:=Kz.shp [0,1,2,4] s==[51,292,308,3,10,3,7,4,7,3,7,3,7,3,3,5,3,3,3,3,2,1,7,10,3,7,4,7,3,7,3,7,3,3,1,4,1,4,1,1239,1,2,1,3,1,3,1,1239,1,2,1,3,1,3,241,241]
def abG:ar:=bO Pz Rm [(147,gh),(190,Am),(193,tQ),(199,zP),(205,Jq),(238,Ob)] [(277,1,fun b s=>(bif cs191_1 s then AS b s else(bif cs191_2 s then EL b s else .fail)))] []
theorem UF:aP abG:=ae af ⟨gm,DH,xD,Cy,KZ,SN,trivial⟩ ⟨(kh (c:=cs191_1) zt (kh (c:=cs191_2) Hg tW)),trivial⟩ trivial
def Lv (p1:Pos)(p2:Z')(p3:Pos)(p4:(BitVec 64))(p5:(BitVec 64))(p6:Int)(p7:Int)(p8:Int)(p9:Int)(p10:Int)(p11:Int)(x:(Int)):St:=St.mk (.yield 2::.ptr 16 0::.ptr 17 0::.any::.int .i64 x::(an 14 [])) (Hp.mk [(pc p1 []),[.int .i8 0,.int .i8 0,.int .u8 0,.int .u8 0,.bool false],[.ints .i64 2 p2],(pc p3 []),[.u64 p4],[.u64 p5],[.func 239 [] [.ptr 4 0]],[.bool true],[.int .i64 p6],[.int .i64 p7],[.func 239 [] [.ptr 4 0]],[.bool true],[.int .i64 p8],[.int .i64 p9],[.func 240 [] [.ptr 0 0,.ptr 5 0,.ptr 3 0]],[.bool false],[.int .i64 p10],[.int .i64 p11]] [] [eF.mk 3 none 241 (an 5 (.ptr 6 0::.ptr 7 0::(an 3 (.func 277 [] [.ptr 8 0,.ptr 9 0]::(an 5 []))))) [11] (sr Pz 241 3) (so Pz 241 3),eF.mk 3 none 241 (an 5 (.ptr 10 0::.ptr 11 0::(an 3 (.func 277 [] [.ptr 12 0,.ptr 13 0]::(an 5 []))))) [11] (sr Pz 241 3) (so Pz 241 3),eF.mk 0 none 241 (an 5 (.ptr 14 0::.ptr 15 0::(an 3 (.func 277 [] [.ptr 16 0,.ptr 17 0]::(an 5 []))))) [11] (sr Pz 241 3) (so Pz 241 3)] 0 0 0)
def Py (p1:Pos)(p2:Z')(p3:Pos)(p4:(BitVec 64))(p5:(BitVec 64))(p6:Int)(p7:Int)(p8:Int)(p9:Int)(p10:Int)(p11:Int):(Int) ⊕ (Int×Bool)→Out
 |(.inl (y))=>.ret (St.mk (AV.yield 2::AV.ptr 16 0::AV.ptr 17 0::AV.any::AV.int .i64 y::(an 13 [AV.aU true])) (Hp.mk [(pc p1 []),[AV.int .i8 0,AV.int .i8 0,AV.int .u8 0,AV.int .u8 0,AV.bool false],[AV.ints .i64 2 p2],(pc p3 []),[AV.u64 p4],[AV.u64 p5],[AV.func 239 [] [AV.ptr 4 0]],[AV.bool true],[AV.int .i64 p6],[AV.int .i64 p7],[AV.func 239 [] [AV.ptr 4 0]],[AV.bool true],[AV.int .i64 p8],[AV.int .i64 p9],[AV.func 240 [] [AV.ptr 0 0,AV.ptr 5 0,AV.ptr 3 0]],[AV.bool false],[AV.int .i64 p10],[AV.int .i64 p11]] [] [eF.mk 3 none 241 (an 5 (AV.ptr 6 0::AV.ptr 7 0::(an 3 (AV.func 277 [] [AV.ptr 8 0,AV.ptr 9 0]::(an 5 []))))) [11] (sr Pz 241 3) (so Pz 241 3),eF.mk 3 none 241 (an 5 (AV.ptr 10 0::AV.ptr 11 0::(an 3 (AV.func 277 [] [AV.ptr 12 0,AV.ptr 13 0]::(an 5 []))))) [11] (sr Pz 241 3) (so Pz 241 3),eF.mk 2 (some Code.ret) 241 (an 5 (AV.ptr 14 0::AV.ptr 15 0::(an 3 (AV.func 277 [] [AV.ptr 16 0,AV.ptr 17 0]::(an 5 []))))) [11] (sr Pz 241 3) (so Pz 241 3)] 0 0 0))
 |(.inr (y))=>.exit 0 (St.mk (AV.yield 2::AV.ptr 16 0::AV.ptr 17 0::AV.any::AV.int .i64 y.1::(an 7 (AV.bool y.2::(an 6 [])))) (Hp.mk [(pc p1 []),[AV.int .i8 0,AV.int .i8 0,AV.int .u8 0,AV.int .u8 0,AV.bool false],[AV.ints .i64 2 p2],(pc p3 []),[AV.u64 p4],[AV.u64 p5],[AV.func 239 [] [AV.ptr 4 0]],[AV.bool true],[AV.int .i64 p6],[AV.int .i64 p7],[AV.func 239 [] [AV.ptr 4 0]],[AV.bool true],[AV.int .i64 p8],[AV.int .i64 p9],[AV.func 240 [] [AV.ptr 0 0,AV.ptr 5 0,AV.ptr 3 0]],[AV.bool false],[AV.int .i64 p10],[AV.int .i64 p11]] [] [eF.mk 3 none 241 (an 5 (AV.ptr 6 0::AV.ptr 7 0::(an 3 (AV.func 277 [] [AV.ptr 8 0,AV.ptr 9 0]::(an 5 []))))) [11] (sr Pz 241 3) (so Pz 241 3),eF.mk 3 none 241 (an 5 (AV.ptr 10 0::AV.ptr 11 0::(an 3 (AV.func 277 [] [AV.ptr 12 0,AV.ptr 13 0]::(an 5 []))))) [11] (sr Pz 241 3) (so Pz 241 3),eF.mk 0 none 241 (an 5 (AV.ptr 14 0::AV.ptr 15 0::(an 3 (AV.func 277 [] [AV.ptr 16 0,AV.ptr 17 0]::(an 5 []))))) [11] (sr Pz 241 3) (so Pz 241 3)] 0 0 0))
def td (p1:Pos)(p2:Z')(p3:Pos)(p4:(BitVec 64))(p5:(BitVec 64))(p6:Int)(p7:Int)(p8:Int)(p9:Int)(p10:Int)(p11:Int)(x:(Int)):aG (Int) ((Int) ⊕ (Int×Bool)):=(bif decide (x≤if p11>p10 then p11 else p10)then(bif p1.variant==3 then(bif fA x&&&p5 != 0#64 then(aG.go (wr .i64 (x+1)))else(bif !!DY p3 x (wr .u8 (1-p1.aa))then(aG.out (.inl x))else(aG.go (wr .i64 (x+1)))))else(bif !!DY p3 x (wr .u8 (1-p1.aa))then(aG.out (.inl x))else(aG.go (wr .i64 (x+1)))))else(aG.out (.inr ((x,decide (x≤if p11>p10 then p11 else p10))))))
def qs (p1:Pos)(p2:Z')(p3:Pos)(p4:(BitVec 64))(p5:(BitVec 64))(p6:Int)(p7:Int)(p8:Int)(p9:Int)(p10:Int)(p11:Int)(x:(Int)):Bool:=(bif decide (x≤if p11>p10 then p11 else p10)then(bif p1.variant==3 then(pg x&&(bif fA x&&&p5 != 0#64 then true else(yQ p3 x (wr .u8 (1-p1.aa))&&true)))else(yQ p3 x (wr .u8 (1-p1.aa))&&true))else true)
def eS (p1:Pos)(p2:Z')(p3:Pos)(p4:(BitVec 64))(p5:(BitVec 64))(p6:Int)(p7:Int)(p8:Int)(p9:Int)(p10:Int)(p11:Int)(x:(Int)):Option ((Int) ⊕ (Int×Bool)):=cW (fun x=>bif qs p1 p2 p3 p4 p5 p6 p7 p8 p9 p10 p11 x then td p1 p2 p3 p4 p5 p6 p7 p8 p9 p10 p11 x else .bad) many x
abbrev Mw {α:Type}(k:Pos→Z'→Pos→(BitVec 64)→(BitVec 64)→Int→Int→Int→Int→Int→Int→(Int)→α)(s:St):α:=wP s 0 fun q0=>wP s 3 fun q3=>k q0 (tN (tH s 2 0)) q3 (tU (tH s 4 0)) (tU (tH s 5 0)) (tI (tH s 8 0)) (tI (tH s 9 0)) (tI (tH s 12 0)) (tI (tH s 13 0)) (tI (tH s 16 0)) (tI (tH s 17 0)) ((tI (tT s 4)))
theorem YX (p1:Pos)(p2:Z')(p3:Pos)(p4:(BitVec 64))(p5:(BitVec 64))(p6:Int)(p7:Int)(p8:Int)(p9:Int)(p10:Int)(p11:Int)(x:(Int))(r:(Int) ⊕ (Int×Bool))(h:eS p1 p2 p3 p4 p5 p6 p7 p8 p9 p10 p11 x=some r):aC Pz (bc Pz 277 1) (Lv p1 p2 p3 p4 p5 p6 p7 p8 p9 p10 p11 x) (Py p1 p2 p3 p4 p5 p6 p7 p8 p9 p10 p11 r):=aC.Be (m:=12) (fn:=277) UF (Mw fun _ _ _ _ _ _ _ _ _ _ _ x=>some x) (fun o=>match o with | .ret s=>some (.inl (tI (tT s 4))) | .exit 0 s=>some (.inr ((tI (tT s 4)),(tB (tT s 12))))|_=>none) (fun r=>by cases r<;>rfl) (fun _=>by kernel_rfl) (fun _=>by kernel_rfl) (fun _=>by kernel_rfl) (fun _=>by kernel_rfl) many x r h
def LQ (b:Code)(s:St):Tr Out:=Mw (fun p1 p2 p3 p4 p5 p6 p7 p8 p9 p10 p11 x=>Bg b (bc Pz 277 1) s (Lv p1 p2 p3 p4 p5 p6 p7 p8 p9 p10 p11 x) (eS p1 p2 p3 p4 p5 p6 p7 p8 p9 p10 p11 x) (Py p1 p2 p3 p4 p5 p6 p7 p8 p9 p10 p11)) s
theorem UM:∀b,aT Pz b (LQ b):=fun _ _ _ h=>eZ (YX _ _ _ _ _ _ _ _ _ _ _ _) h
abbrev cs191_3 (s:St):Bool:=Kz.shp [0,1,2,4] s==[52,356,372,3,10,3,7,4,7,3,7,3,7,3,3,5,3,3,3,3,2,1,7,10,3,7,4,7,3,7,3,7,3,3,1,4,1,4,1,1239,1,2,1,3,1,3,1,1239,1,2,1,3,1,3,1,1240,1,2,1,3,1,3,241,241,241]
def apX:ar:=bO Pz Rm [(147,gh),(190,Am),(193,tQ),(199,zP),(205,Jq),(238,Ob)] [(277,1,fun b s=>(bif cs191_1 s then AS b s else(bif cs191_2 s then EL b s else(bif cs191_3 s then LQ b s else .fail))))] []
theorem aeJ:aP apX:=ae af ⟨gm,DH,xD,Cy,KZ,SN,trivial⟩ ⟨(kh (c:=cs191_1) zt (kh (c:=cs191_2) Hg (kh (c:=cs191_3) UM tW))),trivial⟩ trivial
def dF (a:Pos)(b:Int)(c:Int):(Mv×Bool):=(bif !(cD a b c).2 then(⟨(0),0,0,0,(false)⟩,false)else(bif cQ ((eR a (List.take 2 (List.drop (c.toNat*2) (li [6,5,2,3]))) (u2 a ((a.ab.set (scale 1 b).toNat 0).set (scale 1 (cD a b c).1).toNat 0)) (bm (u2 a ((a.ab.set (scale 1 b).toNat 0).set (scale 1 (cD a b c).1).toNat 0))) (aS a (wr .u8 (1-a.aa)) 6) b (wr .i64 (cy a.aa+(List.take 2 (List.drop (c.toNat*2) (li [6,5,2,3]))).getD 0 0)) (if wr .i64 (cy a.aa+(List.take 2 (List.drop (c.toNat*2) (li [6,5,2,3]))).getD 0 0)<b then wr .i64 (cy a.aa+(List.take 2 (List.drop (c.toNat*2) (li [6,5,2,3]))).getD 0 0)else b)).getD default)then(⟨(wr .i8 b),(wr .i8 (cD a b c).1),0,0,(true)⟩,false)else(bif cQ ((eQ a (List.take 2 (List.drop (c.toNat*2) (li [6,5,2,3]))) (u2 a ((a.ab.set (scale 1 b).toNat 0).set (scale 1 (cD a b c).1).toNat 0)) (bm (u2 a ((a.ab.set (scale 1 b).toNat 0).set (scale 1 (cD a b c).1).toNat 0))) (aS a (wr .u8 (1-a.aa)) 6) b (wr .i64 (cy a.aa+(List.take 2 (List.drop (c.toNat*2) (li [6,5,2,3]))).getD 0 0)) (cD a b c).1 (wr .i64 (cy a.aa+(List.take 2 (List.drop (c.toNat*2) (li [6,5,2,3]))).getD 1 0)) (if wr .i64 (cy a.aa+(List.take 2 (List.drop (c.toNat*2) (li [6,5,2,3]))).getD 1 0)<(cD a b c).1 then wr .i64 (cy a.aa+(List.take 2 (List.drop (c.toNat*2) (li [6,5,2,3]))).getD 1 0)else(cD a b c).1)).getD default)then(⟨(wr .i8 b),(wr .i8 (cD a b c).1),0,0,(true)⟩,false)else(bif cQ ((eS a (List.take 2 (List.drop (c.toNat*2) (li [6,5,2,3]))) (u2 a ((a.ab.set (scale 1 b).toNat 0).set (scale 1 (cD a b c).1).toNat 0)) (bm (u2 a ((a.ab.set (scale 1 b).toNat 0).set (scale 1 (cD a b c).1).toNat 0))) (aS a (wr .u8 (1-a.aa)) 6) b (wr .i64 (cy a.aa+(List.take 2 (List.drop (c.toNat*2) (li [6,5,2,3]))).getD 0 0)) (cD a b c).1 (wr .i64 (cy a.aa+(List.take 2 (List.drop (c.toNat*2) (li [6,5,2,3]))).getD 1 0)) b (wr .i64 (cy a.aa+(List.take 2 (List.drop (c.toNat*2) (li [6,5,2,3]))).getD 0 0)) (if wr .i64 (cy a.aa+(List.take 2 (List.drop (c.toNat*2) (li [6,5,2,3]))).getD 0 0)<b then wr .i64 (cy a.aa+(List.take 2 (List.drop (c.toNat*2) (li [6,5,2,3]))).getD 0 0)else b)).getD default)then(⟨(wr .i8 b),(wr .i8 (cD a b c).1),0,0,(true)⟩,false)else(⟨(wr .i8 b),(wr .i8 (cD a b c).1),0,0,(true)⟩,true)))))
def pZ (a:Pos)(b:Int)(c:Int):Bool:=(Bx a b c&&(bif !(cD a b c).2 then true else(decide (0≤c)&&decide (c<Int.ofNat 2)&&(decide (0≤b)&&decide (b<Int.ofNat 64)&&(decide (0≤(cD a b c).1)&&decide ((cD a b c).1<Int.ofNat 64)&&(sl (u2 a ((a.ab.set (scale 1 b).toNat 0).set (scale 1 (cD a b c).1).toNat 0))&&(cE a (wr .u8 (1-a.aa)) 6&&((eR a (List.take 2 (List.drop (c.toNat*2) (li [6,5,2,3]))) (u2 a ((a.ab.set (scale 1 b).toNat 0).set (scale 1 (cD a b c).1).toNat 0)) (bm (u2 a ((a.ab.set (scale 1 b).toNat 0).set (scale 1 (cD a b c).1).toNat 0))) (aS a (wr .u8 (1-a.aa)) 6) b (wr .i64 (cy a.aa+(List.take 2 (List.drop (c.toNat*2) (li [6,5,2,3]))).getD 0 0)) (if wr .i64 (cy a.aa+(List.take 2 (List.drop (c.toNat*2) (li [6,5,2,3]))).getD 0 0)<b then wr .i64 (cy a.aa+(List.take 2 (List.drop (c.toNat*2) (li [6,5,2,3]))).getD 0 0)else b)).isSome&&bif cQ ((eR a (List.take 2 (List.drop (c.toNat*2) (li [6,5,2,3]))) (u2 a ((a.ab.set (scale 1 b).toNat 0).set (scale 1 (cD a b c).1).toNat 0)) (bm (u2 a ((a.ab.set (scale 1 b).toNat 0).set (scale 1 (cD a b c).1).toNat 0))) (aS a (wr .u8 (1-a.aa)) 6) b (wr .i64 (cy a.aa+(List.take 2 (List.drop (c.toNat*2) (li [6,5,2,3]))).getD 0 0)) (if wr .i64 (cy a.aa+(List.take 2 (List.drop (c.toNat*2) (li [6,5,2,3]))).getD 0 0)<b then wr .i64 (cy a.aa+(List.take 2 (List.drop (c.toNat*2) (li [6,5,2,3]))).getD 0 0)else b)).getD default)then true else((eQ a (List.take 2 (List.drop (c.toNat*2) (li [6,5,2,3]))) (u2 a ((a.ab.set (scale 1 b).toNat 0).set (scale 1 (cD a b c).1).toNat 0)) (bm (u2 a ((a.ab.set (scale 1 b).toNat 0).set (scale 1 (cD a b c).1).toNat 0))) (aS a (wr .u8 (1-a.aa)) 6) b (wr .i64 (cy a.aa+(List.take 2 (List.drop (c.toNat*2) (li [6,5,2,3]))).getD 0 0)) (cD a b c).1 (wr .i64 (cy a.aa+(List.take 2 (List.drop (c.toNat*2) (li [6,5,2,3]))).getD 1 0)) (if wr .i64 (cy a.aa+(List.take 2 (List.drop (c.toNat*2) (li [6,5,2,3]))).getD 1 0)<(cD a b c).1 then wr .i64 (cy a.aa+(List.take 2 (List.drop (c.toNat*2) (li [6,5,2,3]))).getD 1 0)else(cD a b c).1)).isSome&&bif cQ ((eQ a (List.take 2 (List.drop (c.toNat*2) (li [6,5,2,3]))) (u2 a ((a.ab.set (scale 1 b).toNat 0).set (scale 1 (cD a b c).1).toNat 0)) (bm (u2 a ((a.ab.set (scale 1 b).toNat 0).set (scale 1 (cD a b c).1).toNat 0))) (aS a (wr .u8 (1-a.aa)) 6) b (wr .i64 (cy a.aa+(List.take 2 (List.drop (c.toNat*2) (li [6,5,2,3]))).getD 0 0)) (cD a b c).1 (wr .i64 (cy a.aa+(List.take 2 (List.drop (c.toNat*2) (li [6,5,2,3]))).getD 1 0)) (if wr .i64 (cy a.aa+(List.take 2 (List.drop (c.toNat*2) (li [6,5,2,3]))).getD 1 0)<(cD a b c).1 then wr .i64 (cy a.aa+(List.take 2 (List.drop (c.toNat*2) (li [6,5,2,3]))).getD 1 0)else(cD a b c).1)).getD default)then true else((eS a (List.take 2 (List.drop (c.toNat*2) (li [6,5,2,3]))) (u2 a ((a.ab.set (scale 1 b).toNat 0).set (scale 1 (cD a b c).1).toNat 0)) (bm (u2 a ((a.ab.set (scale 1 b).toNat 0).set (scale 1 (cD a b c).1).toNat 0))) (aS a (wr .u8 (1-a.aa)) 6) b (wr .i64 (cy a.aa+(List.take 2 (List.drop (c.toNat*2) (li [6,5,2,3]))).getD 0 0)) (cD a b c).1 (wr .i64 (cy a.aa+(List.take 2 (List.drop (c.toNat*2) (li [6,5,2,3]))).getD 1 0)) b (wr .i64 (cy a.aa+(List.take 2 (List.drop (c.toNat*2) (li [6,5,2,3]))).getD 0 0)) (if wr .i64 (cy a.aa+(List.take 2 (List.drop (c.toNat*2) (li [6,5,2,3]))).getD 0 0)<b then wr .i64 (cy a.aa+(List.take 2 (List.drop (c.toNat*2) (li [6,5,2,3]))).getD 0 0)else b)).isSome&&bif cQ ((eS a (List.take 2 (List.drop (c.toNat*2) (li [6,5,2,3]))) (u2 a ((a.ab.set (scale 1 b).toNat 0).set (scale 1 (cD a b c).1).toNat 0)) (bm (u2 a ((a.ab.set (scale 1 b).toNat 0).set (scale 1 (cD a b c).1).toNat 0))) (aS a (wr .u8 (1-a.aa)) 6) b (wr .i64 (cy a.aa+(List.take 2 (List.drop (c.toNat*2) (li [6,5,2,3]))).getD 0 0)) (cD a b c).1 (wr .i64 (cy a.aa+(List.take 2 (List.drop (c.toNat*2) (li [6,5,2,3]))).getD 1 0)) b (wr .i64 (cy a.aa+(List.take 2 (List.drop (c.toNat*2) (li [6,5,2,3]))).getD 0 0)) (if wr .i64 (cy a.aa+(List.take 2 (List.drop (c.toNat*2) (li [6,5,2,3]))).getD 0 0)<b then wr .i64 (cy a.aa+(List.take 2 (List.drop (c.toNat*2) (li [6,5,2,3]))).getD 0 0)else b)).getD default)then true else true))))))))))
theorem aoQ (a:Pos)(b:Int)(c:Int)(h:pZ a b c=true):PS Pz 191 [Pos.av a,.int .i64 b,.int .i64 c] ((d2 qO dB).res (dF a b c)):=pq14 aeJ h
def acL:GT:=g3 aZ (dI .i64) (dI .i64) (fun a b c=>b7 (pZ a b c) ((d2 qO dB).res (dF a b c)))
theorem akO:Sound Pz 191 acL:=db fun a b c=>aA (aoQ a b c)
def anA:KT:=[(132,53,[(0,(1::(rn 13 4 (rn 25 7 [])))),(1,(1::17::(rn 25 7 []))),(2,[2]),(3,(1::3::(rn 25 7 []))),(4,[1,3,32]),(5,[2]),(6,[1,3,4]),(7,[1,3,4,33,34,35]),(8,(1::3::4::(rn 33 4 []))),(9,[1,3,4,6,33,34,35]),(10,[1,3,4,7,8,33,34,35]),(11,[1,3,4,7,33,34,35,46]),(12,[1,3,4,33,34,35]),(13,[1,3,4,33,34,35]),(14,[2])])]
def aqr:ar:=bO Pz anA [(145,j8),(115,ae8),(190,Am),(191,acL)] [] []
theorem afT:aP aqr:=ae af ⟨kM,asQ,DH,akO,trivial⟩ trivial trivial
def eW (a:Pos):M':=(bif decide (a.aa>1)then([])else(bif !xo a.variant then([])else(bif decide (bg a a.aa 6<0)then([])else(bif wr .i64 ((bg a a.aa 6).tdiv 8) != wr .i64 ((cy a.aa).tdiv 8)then([])else(bif(dF a (bg a a.aa 6) 1).2 then(bif(dF a (bg a a.aa 6) 0).2 then([]++[(dF a (bg a a.aa 6) 1).1]++[(dF a (bg a a.aa 6) 0).1])else([]++[(dF a (bg a a.aa 6) 1).1]))else(bif(dF a (bg a a.aa 6) 0).2 then([]++[(dF a (bg a a.aa 6) 0).1])else([])))))))
def CG (a:Pos):Bool:=(bif decide (a.aa>1)then true else(DC (a.variant)&&(bif !xo a.variant then true else(iz a (a.aa) 6&&(bif decide (bg a a.aa 6<0)then true else(bif wr .i64 ((bg a a.aa 6).tdiv 8) != wr .i64 ((cy a.aa).tdiv 8)then true else(pZ a (bg a a.aa 6) 1&&(bif(dF a (bg a a.aa 6) 1).2 then(0==0&&decide (1≤1073741824)&&(pZ a (bg a a.aa 6) 0&&(bif(dF a (bg a a.aa 6) 0).2 then(1==1&&decide (2≤1073741824)&&true)else true)))else(pZ a (bg a a.aa 6) 0&&(bif(dF a (bg a a.aa 6) 0).2 then(0==0&&decide (1≤1073741824)&&true)else true))))))))))
theorem aqs (a:Pos)(h:CG a=true):PS Pz 132 [Pos.av a] ((dL .mv).res (eW a)):=pq14 afT h
def adl:GT:=g1 aZ (fun a=>b7 (CG a) ((dL .mv).res (eW a)))
theorem ath:Sound Pz 132 adl:=aH fun a=>aA (aqs a)
def alM:KT:=[(178,9,[(0,[0,2]),(1,[0,2,4]),(2,[2]),(3,[2])]),(226,22,[(0,[0]),(1,[0,1]),(2,[0])]),(192,6,[(0,[0]),(1,[2])])]
def ao8:ar:=bO Pz alM [] [] []
theorem aiw:aP ao8:=ae af trivial trivial trivial
def sV (a:Int):Bool:=(bif decide (a≥9)then(false)else(bif a==↑0 then(false)else(bif a==↑1 then(false)else(bif a==↑2 then(true)else(bif a==↑3 then(false)else(bif a==↑4 then(false)else(bif a==↑5 then(false)else(bif a==↑6 then(false)else(bif a==↑7 then(false)else(false))))))))))
def CQ (a:Int):Bool:=(bif decide (a≥9)then true else(decide (0≤a)&&decide (a < ↑9)&&(bif a==↑0 then true else(bif a==↑1 then true else(bif a==↑2 then true else(bif a==↑3 then true else(bif a==↑4 then true else(bif a==↑5 then true else(bif a==↑6 then true else(bif a==↑7 then true else(a==↑8&&true)))))))))))
theorem atE (a:Int)(h:CQ a=true):PS Pz 192 [.int .u8 a] (dB.res (sV a)):=pq14 aiw h
def U9:GT:=g1 (dI .u8) (fun a=>b7 (CQ a) (dB.res (sV a)))
theorem X1:Sound Pz 192 U9:=aH fun a=>aA (atE a)
def aaE:KT:=[(133,58,[(0,[1,13,14,15,16]),(1,[1,17]),(2,[2]),(3,[1,3]),(4,[1,3,18]),(5,[1,3,18,19]),(6,[1,3,4,18]),(7,[1,3,5,18]),(8,[1,3,5,18,31]),(9,[1,3,5,6,18]),(10,[1,3,5,6,18,36]),(11,[1,3,5,6,18]),(12,[1,3,5,18,40,41,42]),(13,(1::3::5::18::(rn 40 4 []))),(14,[1,3,5,8,18,40,41,42]),(15,[1,3,5,18,40,41,42]),(16,[1,3,5,18,40,41,42]),(17,[1,3,18]),(18,[2])])]
def Zl:ar:=bO Pz aaE [(193,tQ),(142,iY),(192,U9)] [] []
theorem SZ:aP Zl:=ae af ⟨xD,ju,X1,trivial⟩ trivial trivial
def KX (p1:Int)(p2:Int)(p3:Z')(p4:Int)(p5:Pos)(p6:Nat)(x:(M'×Int)):St:=St.mk (.any::.ptr 0 0::.any::.list .mv x.1 (.own 1)::.any::.int .u8 p1::(an 12 (.int .i64 p2::(an 21 (.list (ET.i .i64) p3 .fresh::.int .i64 p4::.int .i64 x.2::(an 15 [])))))) (Hp.mk [(pc p5 [])] [p6,x.1.length] [] 0 0 0)
def MX (p1:Int)(p2:Int)(p3:Z')(p4:Int)(p5:Pos)(p6:Nat):(M'×Int×Bool)→Out:=fun y=>.exit 2 (St.mk (.any::.ptr 0 0::.any::.list .mv y.1 (.own 1)::.any::.int .u8 p1::(an 12 (.int .i64 p2::(an 21 (.list (ET.i .i64) p3 .fresh::.int .i64 p4::.int .i64 y.2.1::.bool y.2.2::(an 14 [])))))) (Hp.mk [(pc p5 [])] [p6,y.1.length] [] 0 0 0))
def RQ (p1:Int)(p2:Int)(p3:Z')(p4:Int)(p5:Pos)(p6:Nat)(x:(M'×Int)):aG (M'×Int) ((M'×Int×Bool)):=(bif decide (x.2<p4)then(aG.go (x.1++[Mv.mk (wr .i8 (p3.getD x.2.toNat default)) (wr .i8 (p3.getD x.2.toNat default)) 0 p1 false],wr .i64 (x.2+1)))else(aG.out ((x.1,x.2,decide (x.2<p4)))))
def MA (p1:Int)(p2:Int)(p3:Z')(p4:Int)(p5:Pos)(p6:Nat)(x:(M'×Int)):Bool:=(bif decide (x.2<p4)then(decide (0≤x.2)&&decide (x.2<Int.ofNat p3.length)&&(x.1.length==x.1.length&&decide (x.1.length+1≤1073741824)&&true))else true)
def kV (p1:Int)(p2:Int)(p3:Z')(p4:Int)(p5:Pos)(p6:Nat)(x:(M'×Int)):Option ((M'×Int×Bool)):=cW (fun x=>bif MA p1 p2 p3 p4 p5 p6 x then RQ p1 p2 p3 p4 p5 p6 x else .bad) many x
abbrev Lt {α:Type}(k:Int→Int→Z'→Int→Pos→Nat→(M'×Int)→α)(s:St):α:=wP s 0 fun q0=>k (tI (tT s 5)) (tI (tT s 18)) (tL (ET.i .i64) (tT s 40)) (tI (tT s 41)) q0 (tK s 0) ((tL (ET.mv) (tT s 3)),(tI (tT s 42)))
theorem YE (p1:Int)(p2:Int)(p3:Z')(p4:Int)(p5:Pos)(p6:Nat)(x:(M'×Int))(r:(M'×Int×Bool))(h:kV p1 p2 p3 p4 p5 p6 x=some r):aC Pz (bc Pz 133 13) (KX p1 p2 p3 p4 p5 p6 x) (MX p1 p2 p3 p4 p5 p6 r):=smq (m:=12) (fn:=133) SZ (Lt fun _ _ _ _ _ _ x=>some x) (fun o=>match o with | .exit 2 s=>some ((tL ET.mv (tT s 3)),(tI (tT s 42)),(tB (tT s 43)))|_=>none) many x r h
def D3 (b:Code)(s:St):Tr Out:=Lt (fun p1 p2 p3 p4 p5 p6 x=>jU b (bc Pz 133 13) s (KX p1 p2 p3 p4 p5 p6 x) (kV p1 p2 p3 p4 p5 p6 x) (MX p1 p2 p3 p4 p5 p6)) s
theorem GU:∀b,aT Pz b (D3 b):=fun _ _ _ h=>bF (YE _ _ _ _ _ _ _) h
def abP:ar:=bO Pz aaE [(193,tQ),(142,iY),(192,U9)] [(133,13,D3)] []
theorem US:aP abP:=ae af ⟨xD,ju,X1,trivial⟩ ⟨GU,trivial⟩ trivial
def PC (p1:Pos)(p2:Nat)(x:(M'×Int)):St:=St.mk (.any::.ptr 0 0::.any::.list .mv x.1 (.own 1)::(an 14 (.int .i64 x.2::(an 39 [])))) (Hp.mk [(pc p1 [])] [p2,x.1.length] [] 0 0 0)
def NN (p1:Pos)(p2:Nat):(M'×Int×Bool)→Out:=fun y=>.exit 0 (St.mk (.any::.ptr 0 0::.any::.list .mv y.1 (.own 1)::(an 14 (.int .i64 y.2.1::.bool y.2.2::(an 38 [])))) (Hp.mk [(pc p1 [])] [p2,y.1.length] [] 0 0 0))
def T7 (p1:Pos)(p2:Nat)(x:(M'×Int)):aG (M'×Int) ((M'×Int×Bool)):=(bif decide (x.2<5)then(bif p1.ah.getD (scale 6 p1.aa+scale 1 (wr .u8 (wr .i64 (x.2+1)))).toNat 0==0 then(aG.go (x.1,wr .i64 (x.2+1)))else(bif wr .u8 (wr .i64 (x.2+1))==1 then(aG.go (((kV (wr .u8 (wr .i64 (x.2+1))) x.2 (gp (~~~bm p1&&&72057594037927680#64)) (Int.ofNat (gp (~~~bm p1&&&72057594037927680#64)).length) p1 p2 (x.1,0)).getD default).1,wr .i64 (x.2+1)))else(aG.go (((kV (wr .u8 (wr .i64 (x.2+1))) x.2 (gp (~~~bm p1)) (Int.ofNat (gp (~~~bm p1)).length) p1 p2 (x.1,0)).getD default).1,wr .i64 (x.2+1)))))else(aG.out ((x.1,x.2,decide (x.2<5)))))
def QS (p1:Pos)(p2:Nat)(x:(M'×Int)):Bool:=(bif decide (x.2<5)then(decide (0≤p1.aa)&&decide (p1.aa<Int.ofNat 2)&&(decide (0≤wr .u8 (wr .i64 (x.2+1)))&&decide (wr .u8 (wr .i64 (x.2+1))<Int.ofNat 6)&&(bif p1.ah.getD (scale 6 p1.aa+scale 1 (wr .u8 (wr .i64 (x.2+1)))).toNat 0==0 then true else(sl p1&&(bif wr .u8 (wr .i64 (x.2+1))==1 then(oV (~~~bm p1&&&72057594037927680#64)&&((kV (wr .u8 (wr .i64 (x.2+1))) x.2 (gp (~~~bm p1&&&72057594037927680#64)) (Int.ofNat (gp (~~~bm p1&&&72057594037927680#64)).length) p1 p2 (x.1,0)).isSome&&true))else(oV (~~~bm p1)&&((kV (wr .u8 (wr .i64 (x.2+1))) x.2 (gp (~~~bm p1)) (Int.ofNat (gp (~~~bm p1)).length) p1 p2 (x.1,0)).isSome&&true)))))))else true)
def o8 (p1:Pos)(p2:Nat)(x:(M'×Int)):Option ((M'×Int×Bool)):=cW (fun x=>bif QS p1 p2 x then T7 p1 p2 x else .bad) many x
abbrev QX {α:Type}(k:Pos→Nat→(M'×Int)→α)(s:St):α:=wP s 0 fun q0=>k q0 (tK s 0) ((tL (ET.mv) (tT s 3)),(tI (tT s 18)))
theorem Yr (p1:Pos)(p2:Nat)(x:(M'×Int))(r:(M'×Int×Bool))(h:o8 p1 p2 x=some r):aC Pz (bc Pz 133 5) (PC p1 p2 x) (NN p1 p2 r):=smq (m:=12) (fn:=133) US (QX fun _ _ x=>some x) (fun o=>match o with | .exit 0 s=>some ((tL ET.mv (tT s 3)),(tI (tT s 18)),(tB (tT s 19)))|_=>none) many x r h
def QP (b:Code)(s:St):Tr Out:=QX (fun p1 p2 x=>jU b (bc Pz 133 5) s (PC p1 p2 x) (o8 p1 p2 x) (NN p1 p2)) s
theorem Rh:∀b,aT Pz b (QP b):=fun _ _ _ h=>bF (Yr _ _ _) h
def atc:ar:=bO Pz aaE [(193,tQ),(142,iY),(192,U9)] [(133,13,D3),(133,5,QP)] []
theorem adZ:aP atc:=ae af ⟨xD,ju,X1,trivial⟩ ⟨GU,Rh,trivial⟩ trivial
def nS (a:Pos):M':=(bif decide (a.aa>1)then([])else(bif !sV a.variant then([])else(((o8 a 0 ([],0)).getD default).1)))
def Bv (a:Pos):Bool:=(bif decide (a.aa>1)then true else(CQ (a.variant)&&(bif !sV a.variant then true else((o8 a 0 ([],0)).isSome&&true))))
theorem aod (a:Pos)(h:Bv a=true):PS Pz 133 [Pos.av a] ((dL .mv).res (nS a)):=pq14 adZ h
def ajx:GT:=g1 aZ (fun a=>b7 (Bv a) ((dL .mv).res (nS a)))
theorem an8:Sound Pz 133 ajx:=aH fun a=>aA (aod a)
def K66:KT:=[(66,11,[(0,[1]),(1,[2])]),(130,36,[(0,[0]),(1,[0,3]),(2,[0,3,9,10,11]),(3,(0::3::(rn 9 4 []))),(4,[0,3,5,9,10,11]),(5,[0,3,9,10,11]),(6,[0,3,9,10,11,20]),(7,[0,3,9,10,11]),(8,[0,3,9,10,11]),(9,[0,6]),(10,[6,25,26,27]),(11,[6,25,26,27,28]),(12,[6,8,25,26,27]),(13,[6,25,26,27]),(14,[6,25,26,27]),(15,[2])]),(188,27,[(0,[0,1]),(1,[0,1,6]),(2,[0,1]),(3,[0,1]),(4,[0,1,16]),(5,[0]),(6,[4])])]
def B66:ar:=bO Pz K66 [(131,abS),(132,adl),(133,ajx)] [] [(188,UD)]
theorem aot:aP B66:=ae af ⟨aeh,ath,an8,trivial⟩ trivial ⟨W5,trivial⟩
def bR (a:Pos):M':=([]++dZ a++eW a++nS a)
def uU (a:Pos):Bool:=(yP a&&(CG a&&(Bv a&&(!(decide (wr .i64 (0+Int.ofNat (dZ a).length)<0))&&(!(decide (wr .i64 (wr .i64 (0+Int.ofNat (dZ a).length)+Int.ofNat (eW a).length)<0))&&(!(decide (wr .i64 (wr .i64 (wr .i64 (0+Int.ofNat (dZ a).length)+Int.ofNat (eW a).length)+Int.ofNat (nS a).length)<0))&&(decide (0≤wr .i64 (wr .i64 (wr .i64 (0+Int.ofNat (dZ a).length)+Int.ofNat (eW a).length)+Int.ofNat (nS a).length))&&decide (wr .i64 (wr .i64 (wr .i64 (0+Int.ofNat (dZ a).length)+Int.ofNat (eW a).length)+Int.ofNat (nS a).length)≤Int.ofNat 1073741824)&&(0==0&&decide (0+(dZ a).length≤1073741824)&&(([]++dZ a).length==([]++dZ a).length&&decide (([]++dZ a).length+(eW a).length≤1073741824)&&(([]++dZ a++eW a).length==([]++dZ a++eW a).length&&decide (([]++dZ a++eW a).length+(nS a).length≤1073741824)&&true))))))))))
theorem P66 (a:Pos)(h:uU a=true):PS Pz 66 [Pos.av a] ((dL .mv).res (bR a)):=pq14 aot h
def DN:GT:=g1 aZ (fun a=>b7 (uU a) ((dL .mv).res (bR a)))
theorem Fz:Sound Pz 66 DN:=aH fun a=>aA (P66 a)
def ap7:KT:=[(195,51,[(0,(2::3::12::13::14::(rn 17 5 [42,43]))),(1,[2,3,22,42,43]),(2,[4]),(3,[2,3,27,28,29,42,43]),(4,(2::3::(rn 27 4 [42,43]))),(5,[2,3,6,27,28,29,42,43]),(6,[2,3,7,27,28,29,42,43]),(7,[2,3,27,28,29,42,43,44]),(8,[4]),(9,[2,3,27,28,29,42,43]),(10,[50]),(11,[4]),(12,[4])])]
def aph:ar:=bO Pz ap7 [(190,Am)] [] []
theorem ajm:aP aph:=ae af ⟨DH,trivial⟩ trivial trivial
def gZ (a:Pos)(b:Mv):Int:=(bif decide (a.aa>1)then(-1)else(bif !b.bZ then(-1)else(bif b.aD==b.to then(-1)else(bif decide (wr .i64 (wr .i64 b.aD-cy a.aa)<0)then(-1)else(bif decide (wr .i64 (wr .i64 b.aD-cy a.aa)>7)then(-1)else(bif decide (wr .i64 (wr .i64 b.to-cy a.aa)<0)then(-1)else(bif decide (wr .i64 (wr .i64 b.to-cy a.aa)>7)then(-1)else(bif decide (b.to>b.aD)then(0)else(1)))))))))
def ait (a:Pos)(b:Mv):Bool:=true
theorem atJ (a:Pos)(b:Mv)(h:ait a b=true):PS Pz 195 [Pos.av a,Mv.av b] ((dI .i64).res (gZ a b)):=pq14 ajm h
def afl:GT:=g2 aZ qO (fun a b=>.ret ((dI .i64).res (gZ a b)))
theorem aqk:Sound Pz 195 afl:=aO fun a b=>bH (atJ a b rfl)
def atC:KT:=[(137,29,[(0,[2,3]),(1,[2,7]),(2,[2,7,13]),(3,[4,5,6]),(4,[2,8]),(5,[4,5,6])]),(196,4,[(0,[0]),(1,[0])])]
def am5:ar:=bO Pz atC [(190,Am),(195,afl)] [] []
theorem aeD:aP am5:=ae af ⟨DH,aqk,trivial⟩ trivial trivial
def gL (a:Pos)(b:Mv):(Int×Int×Bool):=(bif decide (gZ a (Mv.mk b.aD b.to b.bU b.bh b.bZ)<0)then(0,0,false)else((wr .i64 (cy a.aa+(if 2=2 then List.take 2 (List.drop ((gZ a (Mv.mk b.aD b.to b.bU b.bh b.bZ)).toNat*2) (if 4=4 then if 2=4 then((List.replicate 2 0).set 0 2).set 1 3 else List.take 2 (if 2=4 then((List.replicate 2 0).set 0 6).set 1 5 else List.take 0 (List.replicate 4 0)++((List.replicate 2 0).set 0 6).set 1 5++List.drop 2 (List.replicate 4 0))++((List.replicate 2 0).set 0 2).set 1 3++List.drop 4 (if 2=4 then((List.replicate 2 0).set 0 6).set 1 5 else List.take 0 (List.replicate 4 0)++((List.replicate 2 0).set 0 6).set 1 5++List.drop 2 (List.replicate 4 0))else(List.take 0 (List.replicate 4 0)++if 2=4 then((List.replicate 2 0).set 0 2).set 1 3 else List.take 2 (if 2=4 then((List.replicate 2 0).set 0 6).set 1 5 else List.take 0 (List.replicate 4 0)++((List.replicate 2 0).set 0 6).set 1 5++List.drop 2 (List.replicate 4 0))++((List.replicate 2 0).set 0 2).set 1 3++List.drop 4 (if 2=4 then((List.replicate 2 0).set 0 6).set 1 5 else List.take 0 (List.replicate 4 0)++((List.replicate 2 0).set 0 6).set 1 5++List.drop 2 (List.replicate 4 0)))++List.drop 4 (List.replicate 4 0)))else List.take 0 (List.replicate 2 0)++List.take 2 (List.drop ((gZ a (Mv.mk b.aD b.to b.bU b.bh b.bZ)).toNat*2) (if 4=4 then if 2=4 then((List.replicate 2 0).set 0 2).set 1 3 else List.take 2 (if 2=4 then((List.replicate 2 0).set 0 6).set 1 5 else List.take 0 (List.replicate 4 0)++((List.replicate 2 0).set 0 6).set 1 5++List.drop 2 (List.replicate 4 0))++((List.replicate 2 0).set 0 2).set 1 3++List.drop 4 (if 2=4 then((List.replicate 2 0).set 0 6).set 1 5 else List.take 0 (List.replicate 4 0)++((List.replicate 2 0).set 0 6).set 1 5++List.drop 2 (List.replicate 4 0))else(List.take 0 (List.replicate 4 0)++if 2=4 then((List.replicate 2 0).set 0 2).set 1 3 else List.take 2 (if 2=4 then((List.replicate 2 0).set 0 6).set 1 5 else List.take 0 (List.replicate 4 0)++((List.replicate 2 0).set 0 6).set 1 5++List.drop 2 (List.replicate 4 0))++((List.replicate 2 0).set 0 2).set 1 3++List.drop 4 (if 2=4 then((List.replicate 2 0).set 0 6).set 1 5 else List.take 0 (List.replicate 4 0)++((List.replicate 2 0).set 0 6).set 1 5++List.drop 2 (List.replicate 4 0)))++List.drop 4 (List.replicate 4 0)))++List.drop 2 (List.replicate 2 0)).getD 0 0)),(wr .i64 (cy a.aa+(if 2=2 then List.take 2 (List.drop ((gZ a (Mv.mk b.aD b.to b.bU b.bh b.bZ)).toNat*2) (if 4=4 then if 2=4 then((List.replicate 2 0).set 0 2).set 1 3 else List.take 2 (if 2=4 then((List.replicate 2 0).set 0 6).set 1 5 else List.take 0 (List.replicate 4 0)++((List.replicate 2 0).set 0 6).set 1 5++List.drop 2 (List.replicate 4 0))++((List.replicate 2 0).set 0 2).set 1 3++List.drop 4 (if 2=4 then((List.replicate 2 0).set 0 6).set 1 5 else List.take 0 (List.replicate 4 0)++((List.replicate 2 0).set 0 6).set 1 5++List.drop 2 (List.replicate 4 0))else(List.take 0 (List.replicate 4 0)++if 2=4 then((List.replicate 2 0).set 0 2).set 1 3 else List.take 2 (if 2=4 then((List.replicate 2 0).set 0 6).set 1 5 else List.take 0 (List.replicate 4 0)++((List.replicate 2 0).set 0 6).set 1 5++List.drop 2 (List.replicate 4 0))++((List.replicate 2 0).set 0 2).set 1 3++List.drop 4 (if 2=4 then((List.replicate 2 0).set 0 6).set 1 5 else List.take 0 (List.replicate 4 0)++((List.replicate 2 0).set 0 6).set 1 5++List.drop 2 (List.replicate 4 0)))++List.drop 4 (List.replicate 4 0)))else List.take 0 (List.replicate 2 0)++List.take 2 (List.drop ((gZ a (Mv.mk b.aD b.to b.bU b.bh b.bZ)).toNat*2) (if 4=4 then if 2=4 then((List.replicate 2 0).set 0 2).set 1 3 else List.take 2 (if 2=4 then((List.replicate 2 0).set 0 6).set 1 5 else List.take 0 (List.replicate 4 0)++((List.replicate 2 0).set 0 6).set 1 5++List.drop 2 (List.replicate 4 0))++((List.replicate 2 0).set 0 2).set 1 3++List.drop 4 (if 2=4 then((List.replicate 2 0).set 0 6).set 1 5 else List.take 0 (List.replicate 4 0)++((List.replicate 2 0).set 0 6).set 1 5++List.drop 2 (List.replicate 4 0))else(List.take 0 (List.replicate 4 0)++if 2=4 then((List.replicate 2 0).set 0 2).set 1 3 else List.take 2 (if 2=4 then((List.replicate 2 0).set 0 6).set 1 5 else List.take 0 (List.replicate 4 0)++((List.replicate 2 0).set 0 6).set 1 5++List.drop 2 (List.replicate 4 0))++((List.replicate 2 0).set 0 2).set 1 3++List.drop 4 (if 2=4 then((List.replicate 2 0).set 0 6).set 1 5 else List.take 0 (List.replicate 4 0)++((List.replicate 2 0).set 0 6).set 1 5++List.drop 2 (List.replicate 4 0)))++List.drop 4 (List.replicate 4 0)))++List.drop 2 (List.replicate 2 0)).getD 1 0)),true))
def xW (a:Pos)(b:Mv):Bool:=(bif decide (gZ a (Mv.mk b.aD b.to b.bU b.bh b.bZ)<0)then true else(decide (0≤gZ a (Mv.mk b.aD b.to b.bU b.bh b.bZ))&&decide (gZ a (Mv.mk b.aD b.to b.bU b.bh b.bZ) < ↑2)&&true))
theorem apw (a:Pos)(b:Mv)(h:xW a b=true):PS Pz 137 [Pos.av a,Mv.av b] ((d3 (dI .i64) (dI .i64) dB).res (gL a b)):=pq14 aeD h
def sX:GT:=g2 aZ qO (fun a b=>b7 (xW a b) ((d3 (dI .i64) (dI .i64) dB).res (gL a b)))
theorem wN:Sound Pz 137 sX:=aO fun a b=>aA (apw a b)
def asn:KT:=[(197,15,[(0,[0,1,8,9,12,13]),(1,[4])])]
def apY:ar:=bO Pz asn [] [] []
theorem afX:aP apY:=ae af trivial trivial trivial
def sK (a:Int)(b:Int):Bool:=(bif decide (a≤1)then(bif decide (b≥1)then(decide (b≤5))else(false))else(false))
def afe (a:Int)(b:Int):Bool:=true
theorem apk (a:Int)(b:Int)(h:afe a b=true):PS Pz 197 [.int .u8 a,.int .u8 b] (dB.res (sK a b)):=pq14 afX h
def aa7:GT:=g2 (dI .u8) (dI .u8) (fun a b=>.ret (dB.res (sK a b)))
theorem ai5:Sound Pz 197 aa7:=aO fun a b=>bH (apk a b rfl)
def ats:KT:=[(138,33,[(0,(1::2::3::6::(rn 13 7 []))),(1,[1,2,3,6,20]),(2,[6,7]),(3,[3,6]),(4,[6,7])])]
def atj:ar:=bO Pz ats [(197,aa7)] [] []
theorem adS:aP atj:=ae af ⟨ai5,trivial⟩ trivial trivial
def qL (a:Pos)(b:Int)(c:Int):(Pos×Bool):=(bif !sK b c then(⟨(a.variant),(if 64=64 then a.ab else List.take 0 (List.replicate 64 0)++a.ab++List.drop 64 (List.replicate 64 0)),(a.ai),(if 12=12 then a.ah else List.take 0 (List.replicate 12 0)++a.ah++List.drop 12 (List.replicate 12 0)),(a.aa),(if 4=4 then a.ao else List.take 0 (List.replicate 4 0)++a.ao++List.drop 4 (List.replicate 4 0)),(a.az),(if 2=2 then a.au else List.take 0 (List.replicate 2 0)++a.au++List.drop 2 (List.replicate 2 0)),(a.half),(a.full)⟩,false)else(bif a.ah.getD (scale 6 b+scale 1 c).toNat 0==0 then(⟨(a.variant),(if 64=64 then a.ab else List.take 0 (List.replicate 64 0)++a.ab++List.drop 64 (List.replicate 64 0)),(a.ai),(if 12=12 then a.ah else List.take 0 (List.replicate 12 0)++a.ah++List.drop 12 (List.replicate 12 0)),(a.aa),(if 4=4 then a.ao else List.take 0 (List.replicate 4 0)++a.ao++List.drop 4 (List.replicate 4 0)),(a.az),(if 2=2 then a.au else List.take 0 (List.replicate 2 0)++a.au++List.drop 2 (List.replicate 2 0)),(a.half),(a.full)⟩,false)else(⟨(a.variant),(if 64=64 then a.ab else List.take 0 (List.replicate 64 0)++a.ab++List.drop 64 (List.replicate 64 0)),(a.ai),(if 12=12 then a.ah.set (scale 6 b+scale 1 c).toNat (wr .u8 (a.ah.getD (scale 6 b+scale 1 c).toNat 0-1))else List.take 0 (List.replicate 12 0)++a.ah.set (scale 6 b+scale 1 c).toNat (wr .u8 (a.ah.getD (scale 6 b+scale 1 c).toNat 0-1))++List.drop 12 (List.replicate 12 0)),(a.aa),(if 4=4 then a.ao else List.take 0 (List.replicate 4 0)++a.ao++List.drop 4 (List.replicate 4 0)),(a.az),(if 2=2 then a.au else List.take 0 (List.replicate 2 0)++a.au++List.drop 2 (List.replicate 2 0)),(a.half),(a.full)⟩,true)))
def C3 (a:Pos)(b:Int)(c:Int):Bool:=(bif !sK b c then true else(decide (0≤b)&&decide (b < ↑2)&&(decide (0≤c)&&decide (c < ↑6)&&(bif a.ah.getD (scale 6 b+scale 1 c).toNat 0==0 then true else(decide (0≤b)&&decide (b < ↑2)&&(decide (0≤c)&&decide (c < ↑6)&&(decide (0≤b)&&decide (b < ↑2)&&(decide (0≤c)&&decide (c < ↑6)&&true))))))))
theorem amf (a:Pos)(b:Int)(c:Int)(h:C3 a b c=true):PS Pz 138 [Pos.av a,.int .u8 b,.int .u8 c] ((d2 aZ dB).res (qL a b c)):=pq14 adS h
def sN:GT:=g3 aZ (dI .u8) (dI .u8) (fun a b c=>b7 (C3 a b c) ((d2 aZ dB).res (qL a b c)))
theorem vo:Sound Pz 138 sN:=db fun a b c=>aA (amf a b c)
def an9:KT:=[(141,30,[(0,(1::2::3::6::(rn 11 7 []))),(1,[1,2,3,6,18]),(2,[3,6]),(3,[6])])]
def arj:ar:=bO Pz an9 [(197,aa7)] [] []
theorem ajj:aP arj:=ae af ⟨ai5,trivial⟩ trivial trivial
def hM (a:Pos)(b:Int)(c:Int):Pos:=(bif sK b c then(bif decide (a.ah.getD (scale 6 b+scale 1 c).toNat 0<255)then⟨(a.variant),(if 64=64 then a.ab else List.take 0 (List.replicate 64 0)++a.ab++List.drop 64 (List.replicate 64 0)),(a.ai),(if 12=12 then a.ah.set (scale 6 b+scale 1 c).toNat (wr .u8 (a.ah.getD (scale 6 b+scale 1 c).toNat 0+1))else List.take 0 (List.replicate 12 0)++a.ah.set (scale 6 b+scale 1 c).toNat (wr .u8 (a.ah.getD (scale 6 b+scale 1 c).toNat 0+1))++List.drop 12 (List.replicate 12 0)),(a.aa),(if 4=4 then a.ao else List.take 0 (List.replicate 4 0)++a.ao++List.drop 4 (List.replicate 4 0)),(a.az),(if 2=2 then a.au else List.take 0 (List.replicate 2 0)++a.au++List.drop 2 (List.replicate 2 0)),(a.half),(a.full)⟩else⟨(a.variant),(if 64=64 then a.ab else List.take 0 (List.replicate 64 0)++a.ab++List.drop 64 (List.replicate 64 0)),(a.ai),(if 12=12 then a.ah else List.take 0 (List.replicate 12 0)++a.ah++List.drop 12 (List.replicate 12 0)),(a.aa),(if 4=4 then a.ao else List.take 0 (List.replicate 4 0)++a.ao++List.drop 4 (List.replicate 4 0)),(a.az),(if 2=2 then a.au else List.take 0 (List.replicate 2 0)++a.au++List.drop 2 (List.replicate 2 0)),(a.half),(a.full)⟩)else⟨(a.variant),(if 64=64 then a.ab else List.take 0 (List.replicate 64 0)++a.ab++List.drop 64 (List.replicate 64 0)),(a.ai),(if 12=12 then a.ah else List.take 0 (List.replicate 12 0)++a.ah++List.drop 12 (List.replicate 12 0)),(a.aa),(if 4=4 then a.ao else List.take 0 (List.replicate 4 0)++a.ao++List.drop 4 (List.replicate 4 0)),(a.az),(if 2=2 then a.au else List.take 0 (List.replicate 2 0)++a.au++List.drop 2 (List.replicate 2 0)),(a.half),(a.full)⟩)
def vd (a:Pos)(b:Int)(c:Int):Bool:=(bif sK b c then(decide (0≤b)&&decide (b < ↑2)&&(decide (0≤c)&&decide (c < ↑6)&&(bif decide (a.ah.getD (scale 6 b+scale 1 c).toNat 0<255)then(decide (0≤b)&&decide (b < ↑2)&&(decide (0≤c)&&decide (c < ↑6)&&(decide (0≤b)&&decide (b < ↑2)&&(decide (0≤c)&&decide (c < ↑6)&&true))))else true)))else true)
theorem anu (a:Pos)(b:Int)(c:Int)(h:vd a b c=true):PS Pz 141 [Pos.av a,.int .u8 b,.int .u8 c] (aZ.res (hM a b c)):=pq14 ajj h
def sT:GT:=g3 aZ (dI .u8) (dI .u8) (fun a b c=>b7 (vd a b c) (aZ.res (hM a b c)))
theorem wI:Sound Pz 141 sT:=db fun a b c=>aA (anu a b c)
def apB:KT:=[(143,32,[(0,[1,2,10,11]),(1,[1,2,12]),(2,[4]),(3,[1,2,5]),(4,[1,2,5,6]),(5,[1,2,5,6,19]),(6,[1,2,5,6]),(7,[1,2,5,6]),(8,[4])])]
def aqI:ar:=bO Pz apB [(193,tQ),(147,gh),(199,zP)] [] []
theorem ais:aP aqI:=ae af ⟨xD,gm,Cy,trivial⟩ trivial trivial
def rp (a:Pos)(b:Int):BitVec 64:=(bif decide (b<0)then(0#64)else(bif decide (b≥64)then(0#64)else(fA b&&&bm a &&& ~~~aS a 0 1 &&& ~~~aS a (wr .u8 (0+1)) 1|||1#64 <<< (BitVec.ofInt 64 b).toNat)))
def Dl (a:Pos)(b:Int):Bool:=(bif decide (b<0)then true else(bif decide (b≥64)then true else(pg b&&(sl a&&(cE a 0 1&&(cE a (wr .u8 (0+1)) 1&&true))))))
theorem anU (a:Pos)(b:Int)(h:Dl a b=true):PS Pz 143 [Pos.av a,.int .i64 b] (dU.res (rp a b)):=pq14 ais h
def sR:GT:=g2 aZ (dI .i64) (fun a b=>b7 (Dl a b) (dU.res (rp a b)))
theorem vZ:Sound Pz 143 sR:=aO fun a b=>aA (anU a b)
def aqq:KT:=[(148,8,[(0,[0]),(1,[0,4]),(2,[2]),(3,[2])])]
def as6:ar:=bO Pz aqq [] [] []
theorem afa:aP as6:=ae af trivial trivial trivial
def lQ (a:Int):Int:=(bif decide (a≥10000)then(a)else(wr .i64 (a+1)))
def agE (a:Int):Bool:=true
theorem arv (a:Int)(h:agE a=true):PS Pz 148 [.int .i64 a] ((dI .i64).res (lQ a)):=pq14 afa h
def sQ:GT:=g1 (dI .i64) (fun a=>.ret ((dI .i64).res (lQ a)))
theorem uA:Sound Pz 148 sQ:=aH fun a=>bH (arv a rfl)
def Mq:KT:=[(31,48,[(0,[2,3,4]),(1,[2,3,4,13]),(2,[4,5]),(3,[4,6]),(4,[4,6,37,38]),(5,[4,6,37,38,39]),(6,[4,6,8,37,38]),(7,[4,6,37,38]),(8,[4,6,37,38]),(9,[4,5])]),(68,156,[(0,[0,2]),(1,[0,2,14]),(2,[0,2]),(3,[0,2]),(4,[0,2,48]),(5,[]),(6,[0,2,64]),(7,[0,2,3,4]),(8,[0,2,3,4]),(9,[]),(10,[0,2,119]),(11,[0,2]),(12,[])]),(69,188,[(0,(1::(rn 14 6 (rn 99 11 (rn 163 8 []))))),(1,(1::20::(rn 99 11 (rn 163 8 [])))),(2,(1::2::(rn 99 11 (rn 163 8 [])))),(3,(1::2::26::(rn 99 11 (rn 163 8 [])))),(4,[1,2,4]),(5,[1,4,47]),(6,[1,4]),(7,[]),(8,(1::2::80::(rn 99 11 (rn 163 8 [])))),(9,(1::2::6::(rn 99 11 (rn 163 8 [])))),(10,(1::2::6::110::(rn 163 8 []))),(11,(1::2::6::(rn 163 8 []))),(12,(1::2::(rn 163 8 []))),(13,(1::2::(rn 163 8 []))),(14,(1::2::(rn 163 8 []))),(15,[1,171]),(16,[])]),(70,41,[(0,[0,16]),(1,[0,28,29,30]),(2,[0,28,29,30,31]),(3,[0,3,28,29,30]),(4,[0,28,29,30]),(5,[0,28,29,30])]),(71,121,[(0,(0::18::54::55::(rn 70 16 (89::90::(rn 93 6 (rn 101 10 [])))))),(1,(0::54::55::(rn 70 16 (89::90::(rn 93 6 (rn 101 10 [])))))),(2,(0::2::54::55::(rn 70 16 (89::90::(rn 93 6 (rn 101 10 [])))))),(3,(0::2::31::54::55::(rn 70 16 (89::90::(rn 93 6 (rn 101 10 [])))))),(4,(0::2::54::55::(rn 70 16 (89::90::(rn 93 6 (rn 101 10 [])))))),(5,(0::2::3::54::55::(rn 70 16 (89::90::(rn 93 6 (rn 101 10 [])))))),(6,(0::2::3::46::47::54::55::(rn 70 16 (89::90::(rn 93 6 (rn 101 10 [])))))),(7,(0::2::3::46::47::48::54::55::(rn 70 16 (89::90::(rn 93 6 (rn 101 10 [])))))),(8,(0::(rn 2 4 (46::47::54::55::(rn 70 16 (89::90::(rn 93 6 (rn 101 10 [])))))))),(9,(0::(rn 2 4 (46::47::54::55::56::(rn 70 16 (89::90::(rn 93 6 (rn 101 10 [])))))))),(10,(0::2::3::4::6::46::47::54::55::(rn 70 16 (89::90::(rn 93 6 (rn 101 10 [])))))),(11,(0::2::3::4::6::7::46::47::54::55::(rn 70 16 (89::90::(rn 93 6 (rn 101 10 [])))))),(12,(0::2::3::4::46::47::54::55::(rn 70 16 (89::90::(rn 93 6 (rn 101 11 [])))))),(13,(0::2::3::46::47::54::55::(rn 70 16 (89::90::(rn 93 6 (rn 101 10 [])))))),(14,(0::2::3::46::47::54::55::(rn 70 16 (89::90::(rn 93 6 (rn 101 10 []))))))]),(72,112,[(0,(0::(rn 12 6 (rn 20 26 (rn 64 9 []))))),(1,(0::46::(rn 64 9 []))),(2,(0::2::(rn 64 9 []))),(3,[0,73]),(4,[0,3]),(5,[0,3,106]),(6,[])]),(73,42,[(0,(0::(rn 16 5 []))),(1,[0,21]),(2,[0]),(3,[0,31]),(4,[])]),(74,59,[(0,(0::(rn 26 8 (rn 36 10 [])))),(1,(0::2::(rn 26 8 (rn 36 10 [])))),(2,[0,2,46]),(3,[])]),(140,14,[(0,[0,1]),(1,[3])]),(144,26,[(0,[0]),(1,[0,8]),(2,[2]),(3,[2])])]
def acM:ar:=bO Pz Mq [(149,qv),(66,DN),(65,H8),(67,I7),(147,gh),(135,jt),(137,sX),(138,sN),(139,qc),(141,sT),(142,iY),(143,sR),(145,j8),(146,pB),(148,sQ)] [] []
theorem aa4:aP acM:=ae af ⟨qV,Fz,Kb,Kk,gm,jM,wN,vo,rh,wI,ju,vZ,kM,qY,uA,trivial⟩ trivial trivial
def VV (p1:Pos)(p2:Mv)(p3:Pos)(p4:Pos)(p5:Mv)(p6:Int):List AV:=[AV.ptr 3 0]
def Wp (p1:Pos)(p2:Mv)(p3:Pos)(p4:Pos)(p5:Mv)(p6:Int):Hp:=Hp.mk [(pc p1 []),[AV.int .i8 p2.aD,AV.int .i8 p2.to,AV.int .u8 p2.bU,AV.int .u8 p2.bh,AV.bool p2.bZ],zpB,(pc p3 (pc p4 [AV.int .i8 p5.aD,AV.int .i8 p5.to,AV.int .u8 p5.bU,AV.int .u8 p5.bh,AV.bool p5.bZ,AV.int .i64 p6]))] [] [] 0 0 0
def Ko (p1:Pos)(p2:Mv)(p3:Pos)(p4:Pos)(p5:Mv)(p6:Int)(y:(Pos)):bK := .ret (.tuple []) (Hp.mk [(pc p1 []),[.int .i8 p2.aD,.int .i8 p2.to,.int .u8 p2.bU,.int .u8 p2.bh,.bool p2.bZ],zpB,(pc y (pc p4 [.int .i8 p5.aD,.int .i8 p5.to,.int .u8 p5.bU,.int .u8 p5.bh,.bool p5.bZ,.int .i64 p6]))] [] [] 0 0 0)
def bT (p1:Pos)(p2:Mv)(p3:Pos)(p4:Pos)(p5:Mv)(p6:Int):(Pos):=(bif p5.bZ then(u2 p3 ((((p3.ab.set (scale 1 p5.aD).toNat 0).set (scale 1 p5.to).toNat 0).set (scale 1 (gL p4 p5).1).toNat (p4.ab.getD (scale 1 p5.aD).toNat 0)).set (scale 1 (gL p4 p5).2.1).toNat (p4.ab.getD (scale 1 p5.to).toNat 0)))else(bif p5.bh != 0 then(u2 (qL p3 p3.aa p5.bh).1 ((qL p3 p3.aa p5.bh).1.ab.set (scale 1 p5.to).toNat (lH (qL p3 p3.aa p5.bh).1.aa p5.bh)))else(bif decide (p6≥0)then(bif p5.bU != 0 then(u2 p3 ((((p3.ab.set (scale 1 p6).toNat 0).set (scale 1 p5.aD).toNat 0).set (scale 1 p5.to).toNat (p4.ab.getD (scale 1 p5.aD).toNat 0)).set (scale 1 p5.to).toNat (lH p3.aa p5.bU)))else(u2 p3 (((p3.ab.set (scale 1 p6).toNat 0).set (scale 1 p5.aD).toNat 0).set (scale 1 p5.to).toNat (p4.ab.getD (scale 1 p5.aD).toNat 0))))else(bif p5.bU != 0 then(u2 p3 (((p3.ab.set (scale 1 p5.aD).toNat 0).set (scale 1 p5.to).toNat (p4.ab.getD (scale 1 p5.aD).toNat 0)).set (scale 1 p5.to).toNat (lH p3.aa p5.bU)))else(u2 p3 ((p3.ab.set (scale 1 p5.aD).toNat 0).set (scale 1 p5.to).toNat (p4.ab.getD (scale 1 p5.aD).toNat 0)))))))
def pN (p1:Pos)(p2:Mv)(p3:Pos)(p4:Pos)(p5:Mv)(p6:Int):Bool:=(bif p5.bZ then(xW p4 p5&&(decide (0≤p5.aD)&&decide (p5.aD<Int.ofNat 64)&&(decide (0≤p5.to)&&decide (p5.to<Int.ofNat 64)&&(decide (0≤p5.aD)&&decide (p5.aD<Int.ofNat 64)&&(decide (0≤p5.to)&&decide (p5.to<Int.ofNat 64)&&(decide (0≤(gL p4 p5).1)&&decide ((gL p4 p5).1<Int.ofNat 64)&&(decide (0≤(gL p4 p5).2.1)&&decide ((gL p4 p5).2.1<Int.ofNat 64)&&true)))))))else(bif p5.bh != 0 then(C3 p3 (p3.aa) (p5.bh)&&(decide (0≤p5.to)&&decide (p5.to<Int.ofNat 64)&&true))else(bif decide (p6≥0)then(decide (0≤p6)&&decide (p6<Int.ofNat 64)&&(decide (0≤p5.aD)&&decide (p5.aD<Int.ofNat 64)&&(decide (0≤p5.aD)&&decide (p5.aD<Int.ofNat 64)&&(decide (0≤p5.to)&&decide (p5.to<Int.ofNat 64)&&(bif p5.bU != 0 then(decide (0≤p5.to)&&decide (p5.to<Int.ofNat 64)&&true)else true)))))else(decide (0≤p5.aD)&&decide (p5.aD<Int.ofNat 64)&&(decide (0≤p5.aD)&&decide (p5.aD<Int.ofNat 64)&&(decide (0≤p5.to)&&decide (p5.to<Int.ofNat 64)&&(bif p5.bU != 0 then(decide (0≤p5.to)&&decide (p5.to<Int.ofNat 64)&&true)else true)))))))
abbrev aam {α:Type}(k:Pos→Mv→Pos→Pos→Mv→Int→α)(s:St):α:=wP s 0 fun q0=>wP s 3 fun q3=>wM s 1 fun q1=>k q0 q1 q3 (Kz.Pos.mk (tI (tH s 3 10)) (tN (tH s 3 11)) (tU (tH s 3 12)) (tN (tH s 3 13)) (tI (tH s 3 14)) (tN (tH s 3 15)) (tI (tH s 3 16)) (tN (tH s 3 17)) (tI (tH s 3 18)) (tI (tH s 3 19))) (Kz.Mv.mk (tI (tH s 3 20)) (tI (tH s 3 21)) (tI (tH s 3 22)) (tI (tH s 3 23)) (tB (tH s 3 24))) (tI (tH s 3 25))
theorem acf (p1:Pos)(p2:Mv)(p3:Pos)(p4:Pos)(p5:Mv)(p6:Int)(h:pN p1 p2 p3 p4 p5 p6=true):dz Pz 68 (VV p1 p2 p3 p4 p5 p6) (Wp p1 p2 p3 p4 p5 p6) (Ko p1 p2 p3 p4 p5 p6 (bT p1 p2 p3 p4 p5 p6))∧∃fn,Pz.funcs[68]?=some fn∧fn.body.isSome=true:=kX (n:=14) (O:=Ko p1 p2 p3 p4 p5 p6) aa4 (fun o=>match o with | .ret v h=>(let s:St:=⟨[v],h⟩;wP s 3 fun q3=>some q3)|_=>none) (fun _=>rfl) (by kernel_rfl) (by kernel_rfl) (by kernel_rfl) (by kernel_rfl) h
def jj (xs:List AV)(h:Hp):Tr bK:=aam (fun p1 p2 p3 p4 p5 p6=>fk xs h (VV p1 p2 p3 p4 p5 p6) (Wp p1 p2 p3 p4 p5 p6) (pN p1 p2 p3 p4 p5 p6) (Ko p1 p2 p3 p4 p5 p6) (bT p1 p2 p3 p4 p5 p6)) ⟨xs,h⟩
theorem gX:dH Pz 68 jj:=fun _ _ _ h=>wy (acf _ _ _ _ _ _) h
def ahn:ar:=bO Pz Mq [(149,qv),(66,DN),(65,H8),(67,I7),(147,gh),(135,jt),(137,sX),(138,sN),(139,qc),(141,sT),(142,iY),(143,sR),(145,j8),(146,pB),(148,sQ)] [] [(68,jj)]
theorem aa8:aP ahn:=ae af ⟨qV,Fz,Kb,Kk,gm,jM,wN,vo,rh,wI,ju,vZ,kM,qY,uA,trivial⟩ trivial ⟨gX,trivial⟩
def Vn (p1:Pos)(p2:Mv)(p3:Pos)(p4:Pos)(p5:Mv)(p6:Int):List AV:=[AV.ptr 3 0]
def VP (p1:Pos)(p2:Mv)(p3:Pos)(p4:Pos)(p5:Mv)(p6:Int):Hp:=Hp.mk [(pc p1 []),[AV.int .i8 p2.aD,AV.int .i8 p2.to,AV.int .u8 p2.bU,AV.int .u8 p2.bh,AV.bool p2.bZ],zpB,(pc p3 (pc p4 [AV.int .i8 p5.aD,AV.int .i8 p5.to,AV.int .u8 p5.bU,AV.int .u8 p5.bh,AV.bool p5.bZ,AV.int .i64 p6]))] [] [] 0 0 0
def No (p1:Pos)(p2:Mv)(p3:Pos)(p4:Pos)(p5:Mv)(p6:Int)(y:(Pos)):bK := .ret (.tuple []) (Hp.mk [(pc p1 []),[.int .i8 p2.aD,.int .i8 p2.to,.int .u8 p2.bU,.int .u8 p2.bh,.bool p2.bZ],zpB,(pc y (pc p4 [.int .i8 p5.aD,.int .i8 p5.to,.int .u8 p5.bU,.int .u8 p5.bh,.bool p5.bZ,.int .i64 p6]))] [] [] 0 0 0)
def cC (p1:Pos)(p2:Mv)(p3:Pos)(p4:Pos)(p5:Mv)(p6:Int):(Pos):=(bif p3.variant != 2 then(p3)else(bif p5.bh != 0 then(p3)else(bif p5.bZ then(bif p4.ai >>> (BitVec.ofInt 64 (wr .i64 p5.to)).toNat&&&1#64==1#64 then(u4 p3 (p3.ai &&& ~~~(1#64 <<< (BitVec.ofInt 64 p5.to).toNat)|||1#64 <<< (BitVec.ofInt 64 (gL p4 p5).2.1).toNat))else(p3))else(bif decide (p6≥0)then(bif p4.ai >>> (BitVec.ofInt 64 p6).toNat&&&1#64==1#64 then(bif p4.ab.getD (scale 1 p6).toNat 0 != 0 then(bif p5.bU != 0 then(u4 (hM p3 p3.aa 1) ((hM p3 p3.aa 1).ai &&& ~~~(1#64 <<< (BitVec.ofInt 64 p6).toNat) &&& ~~~(1#64 <<< (BitVec.ofInt 64 p5.aD).toNat)|||1#64 <<< (BitVec.ofInt 64 p5.to).toNat))else(bif p4.ai >>> (BitVec.ofInt 64 (wr .i64 p5.aD)).toNat&&&1#64==1#64 then(u4 (hM p3 p3.aa 1) ((hM p3 p3.aa 1).ai &&& ~~~(1#64 <<< (BitVec.ofInt 64 p6).toNat) &&& ~~~(1#64 <<< (BitVec.ofInt 64 p5.aD).toNat)|||1#64 <<< (BitVec.ofInt 64 p5.to).toNat))else(u4 (hM p3 p3.aa 1) ((hM p3 p3.aa 1).ai &&& ~~~(1#64 <<< (BitVec.ofInt 64 p6).toNat) &&& ~~~(1#64 <<< (BitVec.ofInt 64 p5.aD).toNat)))))else(bif p5.bU != 0 then(u4 (hM p3 p3.aa (dh (p4.ab.getD (scale 1 p6).toNat 0))) ((hM p3 p3.aa (dh (p4.ab.getD (scale 1 p6).toNat 0))).ai &&& ~~~(1#64 <<< (BitVec.ofInt 64 p6).toNat) &&& ~~~(1#64 <<< (BitVec.ofInt 64 p5.aD).toNat)|||1#64 <<< (BitVec.ofInt 64 p5.to).toNat))else(bif p4.ai >>> (BitVec.ofInt 64 (wr .i64 p5.aD)).toNat&&&1#64==1#64 then(u4 (hM p3 p3.aa (dh (p4.ab.getD (scale 1 p6).toNat 0))) ((hM p3 p3.aa (dh (p4.ab.getD (scale 1 p6).toNat 0))).ai &&& ~~~(1#64 <<< (BitVec.ofInt 64 p6).toNat) &&& ~~~(1#64 <<< (BitVec.ofInt 64 p5.aD).toNat)|||1#64 <<< (BitVec.ofInt 64 p5.to).toNat))else(u4 (hM p3 p3.aa (dh (p4.ab.getD (scale 1 p6).toNat 0))) ((hM p3 p3.aa (dh (p4.ab.getD (scale 1 p6).toNat 0))).ai &&& ~~~(1#64 <<< (BitVec.ofInt 64 p6).toNat) &&& ~~~(1#64 <<< (BitVec.ofInt 64 p5.aD).toNat))))))else(bif p5.bU != 0 then(u4 (hM p3 p3.aa (dh (p4.ab.getD (scale 1 p6).toNat 0))) ((hM p3 p3.aa (dh (p4.ab.getD (scale 1 p6).toNat 0))).ai &&& ~~~(1#64 <<< (BitVec.ofInt 64 p6).toNat) &&& ~~~(1#64 <<< (BitVec.ofInt 64 p5.aD).toNat)|||1#64 <<< (BitVec.ofInt 64 p5.to).toNat))else(bif p4.ai >>> (BitVec.ofInt 64 (wr .i64 p5.aD)).toNat&&&1#64==1#64 then(u4 (hM p3 p3.aa (dh (p4.ab.getD (scale 1 p6).toNat 0))) ((hM p3 p3.aa (dh (p4.ab.getD (scale 1 p6).toNat 0))).ai &&& ~~~(1#64 <<< (BitVec.ofInt 64 p6).toNat) &&& ~~~(1#64 <<< (BitVec.ofInt 64 p5.aD).toNat)|||1#64 <<< (BitVec.ofInt 64 p5.to).toNat))else(u4 (hM p3 p3.aa (dh (p4.ab.getD (scale 1 p6).toNat 0))) ((hM p3 p3.aa (dh (p4.ab.getD (scale 1 p6).toNat 0))).ai &&& ~~~(1#64 <<< (BitVec.ofInt 64 p6).toNat) &&& ~~~(1#64 <<< (BitVec.ofInt 64 p5.aD).toNat))))))else(bif p5.bU != 0 then(u4 p3 (p3.ai &&& ~~~(1#64 <<< (BitVec.ofInt 64 p5.aD).toNat)|||1#64 <<< (BitVec.ofInt 64 p5.to).toNat))else(bif p4.ai >>> (BitVec.ofInt 64 (wr .i64 p5.aD)).toNat&&&1#64==1#64 then(u4 p3 (p3.ai &&& ~~~(1#64 <<< (BitVec.ofInt 64 p5.aD).toNat)|||1#64 <<< (BitVec.ofInt 64 p5.to).toNat))else(u4 p3 (p3.ai &&& ~~~(1#64 <<< (BitVec.ofInt 64 p5.aD).toNat)))))))))
def pS (p1:Pos)(p2:Mv)(p3:Pos)(p4:Pos)(p5:Mv)(p6:Int):Bool:=(bif p3.variant != 2 then true else(bif p5.bh != 0 then true else(bif p5.bZ then(xW p4 p5&&true)else(bif decide (p6≥0)then(decide (0≤p6)&&decide (p6<Int.ofNat 64)&&(bif p4.ai >>> (BitVec.ofInt 64 p6).toNat&&&1#64==1#64 then(decide (0≤p6)&&decide (p6<Int.ofNat 64)&&(bif p4.ab.getD (scale 1 p6).toNat 0 != 0 then(vd p3 (p3.aa) 1&&true)else(vd p3 (p3.aa) (dh (p4.ab.getD (scale 1 p6).toNat 0))&&true)))else(vd p3 (p3.aa) (dh (p4.ab.getD (scale 1 p6).toNat 0))&&true)))else true))))
abbrev aaq {α:Type}(k:Pos→Mv→Pos→Pos→Mv→Int→α)(s:St):α:=wP s 0 fun q0=>wP s 3 fun q3=>wM s 1 fun q1=>k q0 q1 q3 (Kz.Pos.mk (tI (tH s 3 10)) (tN (tH s 3 11)) (tU (tH s 3 12)) (tN (tH s 3 13)) (tI (tH s 3 14)) (tN (tH s 3 15)) (tI (tH s 3 16)) (tN (tH s 3 17)) (tI (tH s 3 18)) (tI (tH s 3 19))) (Kz.Mv.mk (tI (tH s 3 20)) (tI (tH s 3 21)) (tI (tH s 3 22)) (tI (tH s 3 23)) (tB (tH s 3 24))) (tI (tH s 3 25))
theorem YH (p1:Pos)(p2:Mv)(p3:Pos)(p4:Pos)(p5:Mv)(p6:Int)(h:pS p1 p2 p3 p4 p5 p6=true):dz Pz 69 (Vn p1 p2 p3 p4 p5 p6) (VP p1 p2 p3 p4 p5 p6) (No p1 p2 p3 p4 p5 p6 (cC p1 p2 p3 p4 p5 p6))∧∃fn,Pz.funcs[69]?=some fn∧fn.body.isSome=true:=kX (n:=14) (O:=No p1 p2 p3 p4 p5 p6) aa8 (fun o=>match o with | .ret v h=>(let s:St:=⟨[v],h⟩;wP s 3 fun q3=>some q3)|_=>none) (fun _=>rfl) (by kernel_rfl) (by kernel_rfl) (by kernel_rfl) (by kernel_rfl) h
def jK (xs:List AV)(h:Hp):Tr bK:=aaq (fun p1 p2 p3 p4 p5 p6=>fk xs h (Vn p1 p2 p3 p4 p5 p6) (VP p1 p2 p3 p4 p5 p6) (pS p1 p2 p3 p4 p5 p6) (No p1 p2 p3 p4 p5 p6) (cC p1 p2 p3 p4 p5 p6)) ⟨xs,h⟩
theorem iG:dH Pz 69 jK:=fun _ _ _ h=>wy (YH _ _ _ _ _ _) h
def aer:ar:=bO Pz Mq [(149,qv),(66,DN),(65,H8),(67,I7),(147,gh),(135,jt),(137,sX),(138,sN),(139,qc),(141,sT),(142,iY),(143,sR),(145,j8),(146,pB),(148,sQ)] [] [(68,jj),(69,jK)]
theorem aci:aP aer:=ae af ⟨qV,Fz,Kb,Kk,gm,jM,wN,vo,rh,wI,ju,vZ,kM,qY,uA,trivial⟩ trivial ⟨gX,iG,trivial⟩
def Xl (p1:Z')(p2:Int)(p3:Pos)(p4:Mv)(p5:Pos)(p6:Mv)(p7:Int)(x:(Int×Pos)):St:=St.mk (.ptr 3 0::(an 27 (.list (ET.i .i64) p1 .fresh::.int .i64 p2::.int .i64 x.1::(an 10 [])))) (Hp.mk [(pc p3 []),[.int .i8 p4.aD,.int .i8 p4.to,.int .u8 p4.bU,.int .u8 p4.bh,.bool p4.bZ],zpB,(pc x.2 (pc p5 [.int .i8 p6.aD,.int .i8 p6.to,.int .u8 p6.bU,.int .u8 p6.bh,.bool p6.bZ,.int .i64 p7]))] [] [] 0 0 0)
def Wq (p1:Z')(p2:Int)(p3:Pos)(p4:Mv)(p5:Pos)(p6:Mv)(p7:Int):(Int×Bool×Pos)→Out:=fun y=>.exit 0 (St.mk (.ptr 3 0::(an 27 (.list (ET.i .i64) p1 .fresh::.int .i64 p2::.int .i64 y.1::.bool y.2.1::(an 9 [])))) (Hp.mk [(pc p3 []),[.int .i8 p4.aD,.int .i8 p4.to,.int .u8 p4.bU,.int .u8 p4.bh,.bool p4.bZ],zpB,(pc y.2.2 (pc p5 [.int .i8 p6.aD,.int .i8 p6.to,.int .u8 p6.bU,.int .u8 p6.bh,.bool p6.bZ,.int .i64 p7]))] [] [] 0 0 0))
def Mz (p1:Z')(p2:Int)(p3:Pos)(p4:Mv)(p5:Pos)(p6:Mv)(p7:Int)(x:(Int×Pos)):aG (Int×Pos) ((Int×Bool×Pos)):=(bif decide (x.1<p2)then(aG.go (wr .i64 (x.1+1),u2 x.2 (x.2.ab.set (scale 1 (p1.getD x.1.toNat default)).toNat 0)))else(aG.out ((x.1,decide (x.1<p2),x.2))))
def Ig (p1:Z')(p2:Int)(p3:Pos)(p4:Mv)(p5:Pos)(p6:Mv)(p7:Int)(x:(Int×Pos)):Bool:=(bif decide (x.1<p2)then(decide (0≤x.1)&&decide (x.1<Int.ofNat p1.length)&&(decide (0≤p1.getD x.1.toNat default)&&decide (p1.getD x.1.toNat default<Int.ofNat 64)&&true))else true)
def rG (p1:Z')(p2:Int)(p3:Pos)(p4:Mv)(p5:Pos)(p6:Mv)(p7:Int)(x:(Int×Pos)):Option ((Int×Bool×Pos)):=cW (fun x=>bif Ig p1 p2 p3 p4 p5 p6 p7 x then Mz p1 p2 p3 p4 p5 p6 p7 x else .bad) many x
abbrev WC {α:Type}(k:Z'→Int→Pos→Mv→Pos→Mv→Int→(Int×Pos)→α)(s:St):α:=wP s 0 fun q0=>wP s 3 fun q3=>wM s 1 fun q1=>k (tL (ET.i .i64) (tT s 28)) (tI (tT s 29)) q0 q1 (Kz.Pos.mk (tI (tH s 3 10)) (tN (tH s 3 11)) (tU (tH s 3 12)) (tN (tH s 3 13)) (tI (tH s 3 14)) (tN (tH s 3 15)) (tI (tH s 3 16)) (tN (tH s 3 17)) (tI (tH s 3 18)) (tI (tH s 3 19))) (Kz.Mv.mk (tI (tH s 3 20)) (tI (tH s 3 21)) (tI (tH s 3 22)) (tI (tH s 3 23)) (tB (tH s 3 24))) (tI (tH s 3 25)) ((tI (tT s 30)),q3)
theorem adY (p1:Z')(p2:Int)(p3:Pos)(p4:Mv)(p5:Pos)(p6:Mv)(p7:Int)(x:(Int×Pos))(r:(Int×Bool×Pos))(h:rG p1 p2 p3 p4 p5 p6 p7 x=some r):aC Pz (bc Pz 70 2) (Xl p1 p2 p3 p4 p5 p6 p7 x) (Wq p1 p2 p3 p4 p5 p6 p7 r):=smq (m:=12) (fn:=70) aci (WC fun _ _ _ _ _ _ _ x=>some x) (fun o=>match o with | .exit 0 s=>wP s 3 fun q3=>some ((tI (tT s 30)),(tB (tT s 31)),q3)|_=>none) many x r h
def pP (b:Code)(s:St):Tr Out:=WC (fun p1 p2 p3 p4 p5 p6 p7 x=>jU b (bc Pz 70 2) s (Xl p1 p2 p3 p4 p5 p6 p7 x) (rG p1 p2 p3 p4 p5 p6 p7 x) (Wq p1 p2 p3 p4 p5 p6 p7)) s
theorem mh:∀b,aT Pz b (pP b):=fun _ _ _ h=>bF (adY _ _ _ _ _ _ _ _) h
def afN:ar:=bO Pz Mq [(149,qv),(66,DN),(65,H8),(67,I7),(147,gh),(135,jt),(137,sX),(138,sN),(139,qc),(141,sT),(142,iY),(143,sR),(145,j8),(146,pB),(148,sQ)] [(70,2,pP)] [(68,jj),(69,jK)]
theorem Yw:aP afN:=ae af ⟨qV,Fz,Kb,Kk,gm,jM,wN,vo,rh,wI,ju,vZ,kM,qY,uA,trivial⟩ ⟨mh,trivial⟩ ⟨gX,iG,trivial⟩
def WG (p1:Pos)(p2:Mv)(p3:Pos)(p4:Pos)(p5:Mv)(p6:Int):List AV:=[AV.ptr 3 0]
def WL (p1:Pos)(p2:Mv)(p3:Pos)(p4:Pos)(p5:Mv)(p6:Int):Hp:=Hp.mk [(pc p1 []),[AV.int .i8 p2.aD,AV.int .i8 p2.to,AV.int .u8 p2.bU,AV.int .u8 p2.bh,AV.bool p2.bZ],zpB,(pc p3 (pc p4 [AV.int .i8 p5.aD,AV.int .i8 p5.to,AV.int .u8 p5.bU,AV.int .u8 p5.bh,AV.bool p5.bZ,AV.int .i64 p6]))] [] [] 0 0 0
def Ns (p1:Pos)(p2:Mv)(p3:Pos)(p4:Pos)(p5:Mv)(p6:Int)(y:(Pos)):bK := .ret (.tuple []) (Hp.mk [(pc p1 []),[.int .i8 p2.aD,.int .i8 p2.to,.int .u8 p2.bU,.int .u8 p2.bh,.bool p2.bZ],zpB,(pc y (pc p4 [.int .i8 p5.aD,.int .i8 p5.to,.int .u8 p5.bU,.int .u8 p5.bh,.bool p5.bZ,.int .i64 p6]))] [] [] 0 0 0)
def cU (p1:Pos)(p2:Mv)(p3:Pos)(p4:Pos)(p5:Mv)(p6:Int):(Pos):=(bif p3.variant != 3 then(p3)else(bif decide (p6<0)then(p3)else(((rG (gp (rp p3 (wr .i64 p5.to))) (Int.ofNat (gp (rp p3 (wr .i64 p5.to))).length) p1 p2 p4 p5 p6 (0,p3)).getD default).2.2)))
def qy (p1:Pos)(p2:Mv)(p3:Pos)(p4:Pos)(p5:Mv)(p6:Int):Bool:=(bif p3.variant != 3 then true else(bif decide (p6<0)then true else(Dl p3 (wr .i64 p5.to)&&(oV (rp p3 (wr .i64 p5.to))&&((rG (gp (rp p3 (wr .i64 p5.to))) (Int.ofNat (gp (rp p3 (wr .i64 p5.to))).length) p1 p2 p4 p5 p6 (0,p3)).isSome&&true)))))
abbrev abr {α:Type}(k:Pos→Mv→Pos→Pos→Mv→Int→α)(s:St):α:=wP s 0 fun q0=>wP s 3 fun q3=>wM s 1 fun q1=>k q0 q1 q3 (Kz.Pos.mk (tI (tH s 3 10)) (tN (tH s 3 11)) (tU (tH s 3 12)) (tN (tH s 3 13)) (tI (tH s 3 14)) (tN (tH s 3 15)) (tI (tH s 3 16)) (tN (tH s 3 17)) (tI (tH s 3 18)) (tI (tH s 3 19))) (Kz.Mv.mk (tI (tH s 3 20)) (tI (tH s 3 21)) (tI (tH s 3 22)) (tI (tH s 3 23)) (tB (tH s 3 24))) (tI (tH s 3 25))
theorem Zd (p1:Pos)(p2:Mv)(p3:Pos)(p4:Pos)(p5:Mv)(p6:Int)(h:qy p1 p2 p3 p4 p5 p6=true):dz Pz 70 (WG p1 p2 p3 p4 p5 p6) (WL p1 p2 p3 p4 p5 p6) (Ns p1 p2 p3 p4 p5 p6 (cU p1 p2 p3 p4 p5 p6))∧∃fn,Pz.funcs[70]?=some fn∧fn.body.isSome=true:=kX (n:=14) (O:=Ns p1 p2 p3 p4 p5 p6) Yw (fun o=>match o with | .ret v h=>(let s:St:=⟨[v],h⟩;wP s 3 fun q3=>some q3)|_=>none) (fun _=>rfl) (by kernel_rfl) (by kernel_rfl) (by kernel_rfl) (by kernel_rfl) h
def mw (xs:List AV)(h:Hp):Tr bK:=abr (fun p1 p2 p3 p4 p5 p6=>fk xs h (WG p1 p2 p3 p4 p5 p6) (WL p1 p2 p3 p4 p5 p6) (qy p1 p2 p3 p4 p5 p6) (Ns p1 p2 p3 p4 p5 p6) (cU p1 p2 p3 p4 p5 p6)) ⟨xs,h⟩
theorem kH:dH Pz 70 mw:=fun _ _ _ h=>wy (Zd _ _ _ _ _ _) h
def adx:ar:=bO Pz Mq [(149,qv),(66,DN),(65,H8),(67,I7),(147,gh),(135,jt),(137,sX),(138,sN),(139,qc),(141,sT),(142,iY),(143,sR),(145,j8),(146,pB),(148,sQ)] [(70,2,pP)] [(68,jj),(69,jK),(70,mw)]
theorem ZS:aP adx:=ae af ⟨qV,Fz,Kb,Kk,gm,jM,wN,vo,rh,wI,ju,vZ,kM,qY,uA,trivial⟩ ⟨mh,trivial⟩ ⟨gX,iG,kH,trivial⟩
def VE (p1:Int)(p2:Int)(p3:Z')(p4:Pos)(p5:Mv)(p6:Pos)(p7:Mv)(p8:Int)(x:(Int×Pos)):St:=St.mk (.ptr 3 0::.any::.int .u8 p1::.int .i64 p2::(an 42 (.agg [.ints .i8 2 p3]::.int .i64 x.1::(an 73 [])))) (Hp.mk [(pc p4 []),[.int .i8 p5.aD,.int .i8 p5.to,.int .u8 p5.bU,.int .u8 p5.bh,.bool p5.bZ],zpB,(pc x.2 (pc p6 [.int .i8 p7.aD,.int .i8 p7.to,.int .u8 p7.bU,.int .u8 p7.bh,.bool p7.bZ,.int .i64 p8]))] [] [] 0 0 0)
def Wt (p1:Int)(p2:Int)(p3:Z')(p4:Pos)(p5:Mv)(p6:Pos)(p7:Mv)(p8:Int):(Int×Bool×Pos)→Out:=fun y=>.exit 2 (St.mk (.ptr 3 0::.any::.int .u8 p1::.int .i64 p2::(an 42 (.agg [.ints .i8 2 p3]::.int .i64 y.1::.bool y.2.1::(an 72 [])))) (Hp.mk [(pc p4 []),[.int .i8 p5.aD,.int .i8 p5.to,.int .u8 p5.bU,.int .u8 p5.bh,.bool p5.bZ],zpB,(pc y.2.2 (pc p6 [.int .i8 p7.aD,.int .i8 p7.to,.int .u8 p7.bU,.int .u8 p7.bh,.bool p7.bZ,.int .i64 p8]))] [] [] 0 0 0))
def Aj (p1:Int)(p2:Int)(p3:Z')(p4:Pos)(p5:Mv)(p6:Pos)(p7:Mv)(p8:Int)(x:(Int×Pos)):aG (Int×Pos) ((Int×Bool×Pos)):=(bif decide (x.1<2)then(bif decide (p3.getD x.1.toNat 0<0)then(aG.go (wr .i64 (x.1+1),x.2))else(bif decide (p3.getD x.1.toNat 0>7)then(aG.go (wr .i64 (x.1+1),x.2))else(bif p8==wr .i64 (wr .i64 (56*wr .i64 p1)+wr .i64 (p3.getD x.1.toNat 0))then(aG.go (wr .i64 (x.1+1),u32 x.2 (x.2.ao.set (scale 2 p1+scale 1 x.1).toNat (-1))))else(bif p7.bh==0 then(bif wr .i64 p7.aD==wr .i64 (wr .i64 (56*wr .i64 p1)+wr .i64 (p3.getD x.1.toNat 0))then(aG.go (wr .i64 (x.1+1),u32 x.2 (x.2.ao.set (scale 2 p1+scale 1 x.1).toNat (-1))))else(bif decide (p2<0)then(aG.go (wr .i64 (x.1+1),u32 x.2 (x.2.ao.set (scale 2 p1+scale 1 x.1).toNat (-1))))else(bif wr .i64 (p2.tdiv 8) != wr .i64 (7*wr .i64 p1)then(aG.go (wr .i64 (x.1+1),u32 x.2 (x.2.ao.set (scale 2 p1+scale 1 x.1).toNat (-1))))else(bif x.2.ab.getD (scale 1 (wr .i64 (wr .i64 (56*wr .i64 p1)+wr .i64 (p3.getD x.1.toNat 0)))).toNat 0 != lH p1 4 then(aG.go (wr .i64 (x.1+1),u32 x.2 (x.2.ao.set (scale 2 p1+scale 1 x.1).toNat (-1))))else(aG.go (wr .i64 (x.1+1),x.2))))))else(bif decide (p2<0)then(aG.go (wr .i64 (x.1+1),u32 x.2 (x.2.ao.set (scale 2 p1+scale 1 x.1).toNat (-1))))else(bif wr .i64 (p2.tdiv 8) != wr .i64 (7*wr .i64 p1)then(aG.go (wr .i64 (x.1+1),u32 x.2 (x.2.ao.set (scale 2 p1+scale 1 x.1).toNat (-1))))else(bif x.2.ab.getD (scale 1 (wr .i64 (wr .i64 (56*wr .i64 p1)+wr .i64 (p3.getD x.1.toNat 0)))).toNat 0 != lH p1 4 then(aG.go (wr .i64 (x.1+1),u32 x.2 (x.2.ao.set (scale 2 p1+scale 1 x.1).toNat (-1))))else(aG.go (wr .i64 (x.1+1),x.2)))))))))else(aG.out ((x.1,decide (x.1<2),x.2))))
def AQ (p1:Int)(p2:Int)(p3:Z')(p4:Pos)(p5:Mv)(p6:Pos)(p7:Mv)(p8:Int)(x:(Int×Pos)):Bool:=(bif decide (x.1<2)then(decide (0≤x.1)&&decide (x.1<Int.ofNat 2)&&(bif decide (p3.getD x.1.toNat 0<0)then true else(bif decide (p3.getD x.1.toNat 0>7)then true else(bif p8==wr .i64 (wr .i64 (56*wr .i64 p1)+wr .i64 (p3.getD x.1.toNat 0))then(decide (0≤p1)&&decide (p1<Int.ofNat 2)&&(decide (0≤x.1)&&decide (x.1<Int.ofNat 2)&&true))else(bif p7.bh==0 then(bif wr .i64 p7.aD==wr .i64 (wr .i64 (56*wr .i64 p1)+wr .i64 (p3.getD x.1.toNat 0))then(decide (0≤p1)&&decide (p1<Int.ofNat 2)&&(decide (0≤x.1)&&decide (x.1<Int.ofNat 2)&&true))else(bif decide (p2<0)then(decide (0≤p1)&&decide (p1<Int.ofNat 2)&&(decide (0≤x.1)&&decide (x.1<Int.ofNat 2)&&true))else(bif wr .i64 (p2.tdiv 8) != wr .i64 (7*wr .i64 p1)then(decide (0≤p1)&&decide (p1<Int.ofNat 2)&&(decide (0≤x.1)&&decide (x.1<Int.ofNat 2)&&true))else(decide (0≤wr .i64 (wr .i64 (56*wr .i64 p1)+wr .i64 (p3.getD x.1.toNat 0)))&&decide (wr .i64 (wr .i64 (56*wr .i64 p1)+wr .i64 (p3.getD x.1.toNat 0))<Int.ofNat 64)&&(bif x.2.ab.getD (scale 1 (wr .i64 (wr .i64 (56*wr .i64 p1)+wr .i64 (p3.getD x.1.toNat 0)))).toNat 0 != lH p1 4 then(decide (0≤p1)&&decide (p1<Int.ofNat 2)&&(decide (0≤x.1)&&decide (x.1<Int.ofNat 2)&&true))else true)))))else(bif decide (p2<0)then(decide (0≤p1)&&decide (p1<Int.ofNat 2)&&(decide (0≤x.1)&&decide (x.1<Int.ofNat 2)&&true))else(bif wr .i64 (p2.tdiv 8) != wr .i64 (7*wr .i64 p1)then(decide (0≤p1)&&decide (p1<Int.ofNat 2)&&(decide (0≤x.1)&&decide (x.1<Int.ofNat 2)&&true))else(decide (0≤wr .i64 (wr .i64 (56*wr .i64 p1)+wr .i64 (p3.getD x.1.toNat 0)))&&decide (wr .i64 (wr .i64 (56*wr .i64 p1)+wr .i64 (p3.getD x.1.toNat 0))<Int.ofNat 64)&&(bif x.2.ab.getD (scale 1 (wr .i64 (wr .i64 (56*wr .i64 p1)+wr .i64 (p3.getD x.1.toNat 0)))).toNat 0 != lH p1 4 then(decide (0≤p1)&&decide (p1<Int.ofNat 2)&&(decide (0≤x.1)&&decide (x.1<Int.ofNat 2)&&true))else true)))))))))else true)
def lY (p1:Int)(p2:Int)(p3:Z')(p4:Pos)(p5:Mv)(p6:Pos)(p7:Mv)(p8:Int)(x:(Int×Pos)):Option ((Int×Bool×Pos)):=cW (fun x=>bif AQ p1 p2 p3 p4 p5 p6 p7 p8 x then Aj p1 p2 p3 p4 p5 p6 p7 p8 x else .bad) many x
abbrev XN {α:Type}(k:Int→Int→Z'→Pos→Mv→Pos→Mv→Int→(Int×Pos)→α)(s:St):α:=wP s 0 fun q0=>wP s 3 fun q3=>wM s 1 fun q1=>k (tI (tT s 2)) (tI (tT s 3)) (tN (tX (tA (tT s 46)) 0)) q0 q1 (Kz.Pos.mk (tI (tH s 3 10)) (tN (tH s 3 11)) (tU (tH s 3 12)) (tN (tH s 3 13)) (tI (tH s 3 14)) (tN (tH s 3 15)) (tI (tH s 3 16)) (tN (tH s 3 17)) (tI (tH s 3 18)) (tI (tH s 3 19))) (Kz.Mv.mk (tI (tH s 3 20)) (tI (tH s 3 21)) (tI (tH s 3 22)) (tI (tH s 3 23)) (tB (tH s 3 24))) (tI (tH s 3 25)) ((tI (tT s 47)),q3)
theorem agh (p1:Int)(p2:Int)(p3:Z')(p4:Pos)(p5:Mv)(p6:Pos)(p7:Mv)(p8:Int)(x:(Int×Pos))(r:(Int×Bool×Pos))(h:lY p1 p2 p3 p4 p5 p6 p7 p8 x=some r):aC Pz (bc Pz 71 7) (VE p1 p2 p3 p4 p5 p6 p7 p8 x) (Wt p1 p2 p3 p4 p5 p6 p7 p8 r):=smq (m:=12) (fn:=71) ZS (XN fun _ _ _ _ _ _ _ _ x=>some x) (fun o=>match o with | .exit 2 s=>wP s 3 fun q3=>some ((tI (tT s 47)),(tB (tT s 48)),q3)|_=>none) many x r h
def wC (b:Code)(s:St):Tr Out:=XN (fun p1 p2 p3 p4 p5 p6 p7 p8 x=>jU b (bc Pz 71 7) s (VE p1 p2 p3 p4 p5 p6 p7 p8 x) (lY p1 p2 p3 p4 p5 p6 p7 p8 x) (Wt p1 p2 p3 p4 p5 p6 p7 p8)) s
theorem rR:∀b,aT Pz b (wC b):=fun _ _ _ h=>bF (agh _ _ _ _ _ _ _ _ _) h
def aex:ar:=bO Pz Mq [(149,qv),(66,DN),(65,H8),(67,I7),(147,gh),(135,jt),(137,sX),(138,sN),(139,qc),(141,sT),(142,iY),(143,sR),(145,j8),(146,pB),(148,sQ)] [(70,2,pP),(71,7,wC)] [(68,jj),(69,jK),(70,mw)]
theorem aa1:aP aex:=ae af ⟨qV,Fz,Kb,Kk,gm,jM,wN,vo,rh,wI,ju,vZ,kM,qY,uA,trivial⟩ ⟨mh,rR,trivial⟩ ⟨gX,iG,kH,trivial⟩
def VH (p1:Pos)(p2:Mv)(p3:Pos)(p4:Mv)(p5:Int)(x:(Int×Pos)):St:=St.mk (.ptr 3 0::.any::.int .u8 x.1::(an 118 [])) (Hp.mk [(pc p1 []),[.int .i8 p2.aD,.int .i8 p2.to,.int .u8 p2.bU,.int .u8 p2.bh,.bool p2.bZ],zpB,(pc x.2 (pc p3 [.int .i8 p4.aD,.int .i8 p4.to,.int .u8 p4.bU,.int .u8 p4.bh,.bool p4.bZ,.int .i64 p5]))] [] [] 0 0 0)
def VU (p1:Pos)(p2:Mv)(p3:Pos)(p4:Mv)(p5:Int):(Int×Bool×Pos)→Out:=fun y=>.exit 0 (St.mk (.ptr 3 0::.any::.int .u8 y.1::(an 28 (.bool y.2.1::(an 89 [])))) (Hp.mk [(pc p1 []),[.int .i8 p2.aD,.int .i8 p2.to,.int .u8 p2.bU,.int .u8 p2.bh,.bool p2.bZ],zpB,(pc y.2.2 (pc p3 [.int .i8 p4.aD,.int .i8 p4.to,.int .u8 p4.bU,.int .u8 p4.bh,.bool p4.bZ,.int .i64 p5]))] [] [] 0 0 0))
def FO (p1:Pos)(p2:Mv)(p3:Pos)(p4:Mv)(p5:Int)(x:(Int×Pos)):aG (Int×Pos) ((Int×Bool×Pos)):=(bif decide (x.1≤1)then(aG.go (wr .u8 (x.1+1),((lY x.1 (bg x.2 x.1 6) (List.take 2 (List.drop (scale 2 x.1).toNat x.2.ao)) p1 p2 p3 p4 p5 (0,x.2)).getD default).2.2))else(aG.out ((x.1,decide (x.1≤1),x.2))))
def zu (p1:Pos)(p2:Mv)(p3:Pos)(p4:Mv)(p5:Int)(x:(Int×Pos)):Bool:=(bif decide (x.1≤1)then(iz (x.2) (x.1) 6&&(decide (0≤x.1)&&decide (x.1<Int.ofNat 2)&&((lY x.1 (bg x.2 x.1 6) (List.take 2 (List.drop (scale 2 x.1).toNat x.2.ao)) p1 p2 p3 p4 p5 (0,x.2)).isSome&&true)))else true)
def dY (p1:Pos)(p2:Mv)(p3:Pos)(p4:Mv)(p5:Int)(x:(Int×Pos)):Option ((Int×Bool×Pos)):=cW (fun x=>bif zu p1 p2 p3 p4 p5 x then FO p1 p2 p3 p4 p5 x else .bad) many x
abbrev WV {α:Type}(k:Pos→Mv→Pos→Mv→Int→(Int×Pos)→α)(s:St):α:=wP s 0 fun q0=>wP s 3 fun q3=>wM s 1 fun q1=>k q0 q1 (Kz.Pos.mk (tI (tH s 3 10)) (tN (tH s 3 11)) (tU (tH s 3 12)) (tN (tH s 3 13)) (tI (tH s 3 14)) (tN (tH s 3 15)) (tI (tH s 3 16)) (tN (tH s 3 17)) (tI (tH s 3 18)) (tI (tH s 3 19))) (Kz.Mv.mk (tI (tH s 3 20)) (tI (tH s 3 21)) (tI (tH s 3 22)) (tI (tH s 3 23)) (tB (tH s 3 24))) (tI (tH s 3 25)) ((tI (tT s 2)),q3)
theorem afS (p1:Pos)(p2:Mv)(p3:Pos)(p4:Mv)(p5:Int)(x:(Int×Pos))(r:(Int×Bool×Pos))(h:dY p1 p2 p3 p4 p5 x=some r):aC Pz (bc Pz 71 3) (VH p1 p2 p3 p4 p5 x) (VU p1 p2 p3 p4 p5 r):=smq (m:=12) (fn:=71) aa1 (WV fun _ _ _ _ _ x=>some x) (fun o=>match o with | .exit 0 s=>wP s 3 fun q3=>some ((tI (tT s 2)),(tB (tT s 31)),q3)|_=>none) many x r h
def yp (b:Code)(s:St):Tr Out:=WV (fun p1 p2 p3 p4 p5 x=>jU b (bc Pz 71 3) s (VH p1 p2 p3 p4 p5 x) (dY p1 p2 p3 p4 p5 x) (VU p1 p2 p3 p4 p5)) s
theorem vV:∀b,aT Pz b (yp b):=fun _ _ _ h=>bF (afS _ _ _ _ _ _) h
def aez:ar:=bO Pz Mq [(149,qv),(66,DN),(65,H8),(67,I7),(147,gh),(135,jt),(137,sX),(138,sN),(139,qc),(141,sT),(142,iY),(143,sR),(145,j8),(146,pB),(148,sQ)] [(70,2,pP),(71,7,wC),(71,3,yp)] [(68,jj),(69,jK),(70,mw)]
theorem aa6:aP aez:=ae af ⟨qV,Fz,Kb,Kk,gm,jM,wN,vo,rh,wI,ju,vZ,kM,qY,uA,trivial⟩ ⟨mh,rR,vV,trivial⟩ ⟨gX,iG,kH,trivial⟩
def Vt (p1:Pos)(p2:Mv)(p3:Pos)(p4:Pos)(p5:Mv)(p6:Int):List AV:=[AV.ptr 3 0]
def WH (p1:Pos)(p2:Mv)(p3:Pos)(p4:Pos)(p5:Mv)(p6:Int):Hp:=Hp.mk [(pc p1 []),[AV.int .i8 p2.aD,AV.int .i8 p2.to,AV.int .u8 p2.bU,AV.int .u8 p2.bh,AV.bool p2.bZ],zpB,(pc p3 (pc p4 [AV.int .i8 p5.aD,AV.int .i8 p5.to,AV.int .u8 p5.bU,AV.int .u8 p5.bh,AV.bool p5.bZ,AV.int .i64 p6]))] [] [] 0 0 0
def MI (p1:Pos)(p2:Mv)(p3:Pos)(p4:Pos)(p5:Mv)(p6:Int)(y:(Pos)):bK := .ret (.tuple []) (Hp.mk [(pc p1 []),[.int .i8 p2.aD,.int .i8 p2.to,.int .u8 p2.bU,.int .u8 p2.bh,.bool p2.bZ],zpB,(pc y (pc p4 [.int .i8 p5.aD,.int .i8 p5.to,.int .u8 p5.bU,.int .u8 p5.bh,.bool p5.bZ,.int .i64 p6]))] [] [] 0 0 0)
def df (p1:Pos)(p2:Mv)(p3:Pos)(p4:Pos)(p5:Mv)(p6:Int):(Pos):=(bif p5.bh != 0 then(bif p5.bh==6 then(bif p5.bh==0 then(((dY p1 p2 p4 p5 p6 (0,u32 p3 (List.take (scale 2 p3.aa).toNat p3.ao++li [-1,-1]++List.drop ((scale 2 p3.aa).toNat+2) p3.ao))).getD default).2.2)else(((dY p1 p2 p4 p5 p6 (0,p3)).getD default).2.2))else(((dY p1 p2 p4 p5 p6 (0,p3)).getD default).2.2))else(bif dh (p4.ab.getD (scale 1 p5.aD).toNat 0)==6 then(bif p5.bh==0 then(((dY p1 p2 p4 p5 p6 (0,u32 p3 (List.take (scale 2 p3.aa).toNat p3.ao++li [-1,-1]++List.drop ((scale 2 p3.aa).toNat+2) p3.ao))).getD default).2.2)else(((dY p1 p2 p4 p5 p6 (0,p3)).getD default).2.2))else(((dY p1 p2 p4 p5 p6 (0,p3)).getD default).2.2)))
def oW (p1:Pos)(p2:Mv)(p3:Pos)(p4:Pos)(p5:Mv)(p6:Int):Bool:=(bif p5.bh != 0 then(bif p5.bh==6 then(bif p5.bh==0 then(decide (0≤p3.aa)&&decide (p3.aa<Int.ofNat 2)&&((dY p1 p2 p4 p5 p6 (0,u32 p3 (List.take (scale 2 p3.aa).toNat p3.ao++li [-1,-1]++List.drop ((scale 2 p3.aa).toNat+2) p3.ao))).isSome&&true))else((dY p1 p2 p4 p5 p6 (0,p3)).isSome&&true))else((dY p1 p2 p4 p5 p6 (0,p3)).isSome&&true))else(decide (0≤p5.aD)&&decide (p5.aD<Int.ofNat 64)&&(bif dh (p4.ab.getD (scale 1 p5.aD).toNat 0)==6 then(bif p5.bh==0 then(decide (0≤p3.aa)&&decide (p3.aa<Int.ofNat 2)&&((dY p1 p2 p4 p5 p6 (0,u32 p3 (List.take (scale 2 p3.aa).toNat p3.ao++li [-1,-1]++List.drop ((scale 2 p3.aa).toNat+2) p3.ao))).isSome&&true))else((dY p1 p2 p4 p5 p6 (0,p3)).isSome&&true))else((dY p1 p2 p4 p5 p6 (0,p3)).isSome&&true))))
abbrev Yh {α:Type}(k:Pos→Mv→Pos→Pos→Mv→Int→α)(s:St):α:=wP s 0 fun q0=>wP s 3 fun q3=>wM s 1 fun q1=>k q0 q1 q3 (Kz.Pos.mk (tI (tH s 3 10)) (tN (tH s 3 11)) (tU (tH s 3 12)) (tN (tH s 3 13)) (tI (tH s 3 14)) (tN (tH s 3 15)) (tI (tH s 3 16)) (tN (tH s 3 17)) (tI (tH s 3 18)) (tI (tH s 3 19))) (Kz.Mv.mk (tI (tH s 3 20)) (tI (tH s 3 21)) (tI (tH s 3 22)) (tI (tH s 3 23)) (tB (tH s 3 24))) (tI (tH s 3 25))
theorem abZ (p1:Pos)(p2:Mv)(p3:Pos)(p4:Pos)(p5:Mv)(p6:Int)(h:oW p1 p2 p3 p4 p5 p6=true):dz Pz 71 (Vt p1 p2 p3 p4 p5 p6) (WH p1 p2 p3 p4 p5 p6) (MI p1 p2 p3 p4 p5 p6 (df p1 p2 p3 p4 p5 p6))∧∃fn,Pz.funcs[71]?=some fn∧fn.body.isSome=true:=kX (n:=14) (O:=MI p1 p2 p3 p4 p5 p6) aa6 (fun o=>match o with | .ret v h=>(let s:St:=⟨[v],h⟩;wP s 3 fun q3=>some q3)|_=>none) (fun _=>rfl) (by kernel_rfl) (by kernel_rfl) (by kernel_rfl) (by kernel_rfl) h
def vQ (xs:List AV)(h:Hp):Tr bK:=Yh (fun p1 p2 p3 p4 p5 p6=>fk xs h (Vt p1 p2 p3 p4 p5 p6) (WH p1 p2 p3 p4 p5 p6) (oW p1 p2 p3 p4 p5 p6) (MI p1 p2 p3 p4 p5 p6) (df p1 p2 p3 p4 p5 p6)) ⟨xs,h⟩
theorem tM:dH Pz 71 vQ:=fun _ _ _ h=>wy (abZ _ _ _ _ _ _) h
def agr:ar:=bO Pz Mq [(149,qv),(66,DN),(65,H8),(67,I7),(147,gh),(135,jt),(137,sX),(138,sN),(139,qc),(141,sT),(142,iY),(143,sR),(145,j8),(146,pB),(148,sQ)] [(70,2,pP),(71,7,wC),(71,3,yp)] [(68,jj),(69,jK),(70,mw),(71,vQ)]
theorem Yl:aP agr:=ae af ⟨qV,Fz,Kb,Kk,gm,jM,wN,vo,rh,wI,ju,vZ,kM,qY,uA,trivial⟩ ⟨mh,rR,vV,trivial⟩ ⟨gX,iG,kH,tM,trivial⟩
def XP (p1:Pos)(p2:Mv)(p3:Pos)(p4:Pos)(p5:Mv)(p6:Int):List AV:=[AV.ptr 3 0]
def XK (p1:Pos)(p2:Mv)(p3:Pos)(p4:Pos)(p5:Mv)(p6:Int):Hp:=Hp.mk [(pc p1 []),[AV.int .i8 p2.aD,AV.int .i8 p2.to,AV.int .u8 p2.bU,AV.int .u8 p2.bh,AV.bool p2.bZ],zpB,(pc p3 (pc p4 [AV.int .i8 p5.aD,AV.int .i8 p5.to,AV.int .u8 p5.bU,AV.int .u8 p5.bh,AV.bool p5.bZ,AV.int .i64 p6]))] [] [] 0 0 0
def QZ (p1:Pos)(p2:Mv)(p3:Pos)(p4:Pos)(p5:Mv)(p6:Int)(y:(Pos)):bK := .ret (.tuple []) (Hp.mk [(pc p1 []),[.int .i8 p2.aD,.int .i8 p2.to,.int .u8 p2.bU,.int .u8 p2.bh,.bool p2.bZ],zpB,(pc y (pc p4 [.int .i8 p5.aD,.int .i8 p5.to,.int .u8 p5.bU,.int .u8 p5.bh,.bool p5.bZ,.int .i64 p6]))] [] [] 0 0 0)
def dG (p1:Pos)(p2:Mv)(p3:Pos)(p4:Pos)(p5:Mv)(p6:Int):(Pos):=(bif p5.bh != 0 then(bif p5.bh != 1 then(u64 p3 (-1))else(bif p5.bh != 0 then(u64 p3 (-1))else(bif wr .i8 (p5.to-p5.aD) != 16 then(bif wr .i8 (p5.aD-p5.to) != 16 then(u64 p3 (-1))else(bif wr .i8 (p5.aD.tdiv 8) != wr .i8 (wr .i8 (7*wr .i8 p3.aa)+1)then(bif wr .i8 (p5.aD.tdiv 8) != wr .i8 (wr .i8 (7*wr .i8 p3.aa)-1)then(u64 p3 (-1))else(bif fc p3.aa (wr .i64 (wr .i8 ((wr .i8 (p5.aD+p5.to)).tdiv 2)))&&&aS (u64 p3 (-1)) (wr .u8 (1-p3.aa)) 1 != 0#64 then(u64 p3 (wr .i8 ((wr .i8 (p5.aD+p5.to)).tdiv 2)))else(u64 p3 (-1))))else(bif fc p3.aa (wr .i64 (wr .i8 ((wr .i8 (p5.aD+p5.to)).tdiv 2)))&&&aS (u64 p3 (-1)) (wr .u8 (1-p3.aa)) 1 != 0#64 then(u64 p3 (wr .i8 ((wr .i8 (p5.aD+p5.to)).tdiv 2)))else(u64 p3 (-1)))))else(bif wr .i8 (p5.aD.tdiv 8) != wr .i8 (wr .i8 (7*wr .i8 p3.aa)+1)then(bif wr .i8 (p5.aD.tdiv 8) != wr .i8 (wr .i8 (7*wr .i8 p3.aa)-1)then(u64 p3 (-1))else(bif fc p3.aa (wr .i64 (wr .i8 ((wr .i8 (p5.aD+p5.to)).tdiv 2)))&&&aS (u64 p3 (-1)) (wr .u8 (1-p3.aa)) 1 != 0#64 then(u64 p3 (wr .i8 ((wr .i8 (p5.aD+p5.to)).tdiv 2)))else(u64 p3 (-1))))else(bif fc p3.aa (wr .i64 (wr .i8 ((wr .i8 (p5.aD+p5.to)).tdiv 2)))&&&aS (u64 p3 (-1)) (wr .u8 (1-p3.aa)) 1 != 0#64 then(u64 p3 (wr .i8 ((wr .i8 (p5.aD+p5.to)).tdiv 2)))else(u64 p3 (-1)))))))else(bif dh (p4.ab.getD (scale 1 p5.aD).toNat 0) != 1 then(u64 p3 (-1))else(bif p5.bh != 0 then(u64 p3 (-1))else(bif wr .i8 (p5.to-p5.aD) != 16 then(bif wr .i8 (p5.aD-p5.to) != 16 then(u64 p3 (-1))else(bif wr .i8 (p5.aD.tdiv 8) != wr .i8 (wr .i8 (7*wr .i8 p3.aa)+1)then(bif wr .i8 (p5.aD.tdiv 8) != wr .i8 (wr .i8 (7*wr .i8 p3.aa)-1)then(u64 p3 (-1))else(bif fc p3.aa (wr .i64 (wr .i8 ((wr .i8 (p5.aD+p5.to)).tdiv 2)))&&&aS (u64 p3 (-1)) (wr .u8 (1-p3.aa)) 1 != 0#64 then(u64 p3 (wr .i8 ((wr .i8 (p5.aD+p5.to)).tdiv 2)))else(u64 p3 (-1))))else(bif fc p3.aa (wr .i64 (wr .i8 ((wr .i8 (p5.aD+p5.to)).tdiv 2)))&&&aS (u64 p3 (-1)) (wr .u8 (1-p3.aa)) 1 != 0#64 then(u64 p3 (wr .i8 ((wr .i8 (p5.aD+p5.to)).tdiv 2)))else(u64 p3 (-1)))))else(bif wr .i8 (p5.aD.tdiv 8) != wr .i8 (wr .i8 (7*wr .i8 p3.aa)+1)then(bif wr .i8 (p5.aD.tdiv 8) != wr .i8 (wr .i8 (7*wr .i8 p3.aa)-1)then(u64 p3 (-1))else(bif fc p3.aa (wr .i64 (wr .i8 ((wr .i8 (p5.aD+p5.to)).tdiv 2)))&&&aS (u64 p3 (-1)) (wr .u8 (1-p3.aa)) 1 != 0#64 then(u64 p3 (wr .i8 ((wr .i8 (p5.aD+p5.to)).tdiv 2)))else(u64 p3 (-1))))else(bif fc p3.aa (wr .i64 (wr .i8 ((wr .i8 (p5.aD+p5.to)).tdiv 2)))&&&aS (u64 p3 (-1)) (wr .u8 (1-p3.aa)) 1 != 0#64 then(u64 p3 (wr .i8 ((wr .i8 (p5.aD+p5.to)).tdiv 2)))else(u64 p3 (-1))))))))
def qp (p1:Pos)(p2:Mv)(p3:Pos)(p4:Pos)(p5:Mv)(p6:Int):Bool:=(bif p5.bh != 0 then(bif p5.bh != 1 then true else(bif p5.bh != 0 then true else(bif wr .i8 (p5.to-p5.aD) != 16 then(bif wr .i8 (p5.aD-p5.to) != 16 then true else(bif wr .i8 (p5.aD.tdiv 8) != wr .i8 (wr .i8 (7*wr .i8 p3.aa)+1)then(bif wr .i8 (p5.aD.tdiv 8) != wr .i8 (wr .i8 (7*wr .i8 p3.aa)-1)then true else(jI (p3.aa) (wr .i64 (wr .i8 ((wr .i8 (p5.aD+p5.to)).tdiv 2)))&&(cE (u64 p3 (-1)) (wr .u8 (1-p3.aa)) 1&&true)))else(jI (p3.aa) (wr .i64 (wr .i8 ((wr .i8 (p5.aD+p5.to)).tdiv 2)))&&(cE (u64 p3 (-1)) (wr .u8 (1-p3.aa)) 1&&true))))else(bif wr .i8 (p5.aD.tdiv 8) != wr .i8 (wr .i8 (7*wr .i8 p3.aa)+1)then(bif wr .i8 (p5.aD.tdiv 8) != wr .i8 (wr .i8 (7*wr .i8 p3.aa)-1)then true else(jI (p3.aa) (wr .i64 (wr .i8 ((wr .i8 (p5.aD+p5.to)).tdiv 2)))&&(cE (u64 p3 (-1)) (wr .u8 (1-p3.aa)) 1&&true)))else(jI (p3.aa) (wr .i64 (wr .i8 ((wr .i8 (p5.aD+p5.to)).tdiv 2)))&&(cE (u64 p3 (-1)) (wr .u8 (1-p3.aa)) 1&&true))))))else(decide (0≤p5.aD)&&decide (p5.aD<Int.ofNat 64)&&(bif dh (p4.ab.getD (scale 1 p5.aD).toNat 0) != 1 then true else(bif p5.bh != 0 then true else(bif wr .i8 (p5.to-p5.aD) != 16 then(bif wr .i8 (p5.aD-p5.to) != 16 then true else(bif wr .i8 (p5.aD.tdiv 8) != wr .i8 (wr .i8 (7*wr .i8 p3.aa)+1)then(bif wr .i8 (p5.aD.tdiv 8) != wr .i8 (wr .i8 (7*wr .i8 p3.aa)-1)then true else(jI (p3.aa) (wr .i64 (wr .i8 ((wr .i8 (p5.aD+p5.to)).tdiv 2)))&&(cE (u64 p3 (-1)) (wr .u8 (1-p3.aa)) 1&&true)))else(jI (p3.aa) (wr .i64 (wr .i8 ((wr .i8 (p5.aD+p5.to)).tdiv 2)))&&(cE (u64 p3 (-1)) (wr .u8 (1-p3.aa)) 1&&true))))else(bif wr .i8 (p5.aD.tdiv 8) != wr .i8 (wr .i8 (7*wr .i8 p3.aa)+1)then(bif wr .i8 (p5.aD.tdiv 8) != wr .i8 (wr .i8 (7*wr .i8 p3.aa)-1)then true else(jI (p3.aa) (wr .i64 (wr .i8 ((wr .i8 (p5.aD+p5.to)).tdiv 2)))&&(cE (u64 p3 (-1)) (wr .u8 (1-p3.aa)) 1&&true)))else(jI (p3.aa) (wr .i64 (wr .i8 ((wr .i8 (p5.aD+p5.to)).tdiv 2)))&&(cE (u64 p3 (-1)) (wr .u8 (1-p3.aa)) 1&&true))))))))
abbrev X4 {α:Type}(k:Pos→Mv→Pos→Pos→Mv→Int→α)(s:St):α:=wP s 0 fun q0=>wP s 3 fun q3=>wM s 1 fun q1=>k q0 q1 q3 (Kz.Pos.mk (tI (tH s 3 10)) (tN (tH s 3 11)) (tU (tH s 3 12)) (tN (tH s 3 13)) (tI (tH s 3 14)) (tN (tH s 3 15)) (tI (tH s 3 16)) (tN (tH s 3 17)) (tI (tH s 3 18)) (tI (tH s 3 19))) (Kz.Mv.mk (tI (tH s 3 20)) (tI (tH s 3 21)) (tI (tH s 3 22)) (tI (tH s 3 23)) (tB (tH s 3 24))) (tI (tH s 3 25))
theorem Yj (p1:Pos)(p2:Mv)(p3:Pos)(p4:Pos)(p5:Mv)(p6:Int)(h:qp p1 p2 p3 p4 p5 p6=true):dz Pz 72 (XP p1 p2 p3 p4 p5 p6) (XK p1 p2 p3 p4 p5 p6) (QZ p1 p2 p3 p4 p5 p6 (dG p1 p2 p3 p4 p5 p6))∧∃fn,Pz.funcs[72]?=some fn∧fn.body.isSome=true:=kX (n:=14) (O:=QZ p1 p2 p3 p4 p5 p6) Yl (fun o=>match o with | .ret v h=>(let s:St:=⟨[v],h⟩;wP s 3 fun q3=>some q3)|_=>none) (fun _=>rfl) (by kernel_rfl) (by kernel_rfl) (by kernel_rfl) (by kernel_rfl) h
def zG (xs:List AV)(h:Hp):Tr bK:=X4 (fun p1 p2 p3 p4 p5 p6=>fk xs h (XP p1 p2 p3 p4 p5 p6) (XK p1 p2 p3 p4 p5 p6) (qp p1 p2 p3 p4 p5 p6) (QZ p1 p2 p3 p4 p5 p6) (dG p1 p2 p3 p4 p5 p6)) ⟨xs,h⟩
theorem zR:dH Pz 72 zG:=fun _ _ _ h=>wy (Yj _ _ _ _ _ _) h
def Y5:ar:=bO Pz Mq [(149,qv),(66,DN),(65,H8),(67,I7),(147,gh),(135,jt),(137,sX),(138,sN),(139,qc),(141,sT),(142,iY),(143,sR),(145,j8),(146,pB),(148,sQ)] [(70,2,pP),(71,7,wC),(71,3,yp)] [(68,jj),(69,jK),(70,mw),(71,vQ),(72,zG)]
theorem TO:aP Y5:=ae af ⟨qV,Fz,Kb,Kk,gm,jM,wN,vo,rh,wI,ju,vZ,kM,qY,uA,trivial⟩ ⟨mh,rR,vV,trivial⟩ ⟨gX,iG,kH,tM,zR,trivial⟩
def La (p1:Pos)(p2:Mv)(p3:Pos)(p4:Pos)(p5:Mv)(p6:Int):List AV:=[AV.ptr 3 0]
def PJ (p1:Pos)(p2:Mv)(p3:Pos)(p4:Pos)(p5:Mv)(p6:Int):Hp:=Hp.mk [(pc p1 []),[AV.int .i8 p2.aD,AV.int .i8 p2.to,AV.int .u8 p2.bU,AV.int .u8 p2.bh,AV.bool p2.bZ],zpB,(pc p3 (pc p4 [AV.int .i8 p5.aD,AV.int .i8 p5.to,AV.int .u8 p5.bU,AV.int .u8 p5.bh,AV.bool p5.bZ,AV.int .i64 p6]))] [] [] 0 0 0
def FF (p1:Pos)(p2:Mv)(p3:Pos)(p4:Pos)(p5:Mv)(p6:Int)(y:(Pos)):bK := .ret (.tuple []) (Hp.mk [(pc p1 []),[.int .i8 p2.aD,.int .i8 p2.to,.int .u8 p2.bU,.int .u8 p2.bh,.bool p2.bZ],zpB,(pc y (pc p4 [.int .i8 p5.aD,.int .i8 p5.to,.int .u8 p5.bU,.int .u8 p5.bh,.bool p5.bZ,.int .i64 p6]))] [] [] 0 0 0)
def de (p1:Pos)(p2:Mv)(p3:Pos)(p4:Pos)(p5:Mv)(p6:Int):(Pos):=(bif p5.bh != 0 then(bif p5.bh==1 then(bif p3.aa==1 then(IV p3 0 (lQ p3.full))else(IZ p3 0))else(bif decide (p6≥0)then(bif p3.aa==1 then(IV p3 0 (lQ p3.full))else(IZ p3 0))else(bif p3.aa==1 then(IV p3 (lQ p3.half) (lQ p3.full))else(IZ p3 (lQ p3.half)))))else(bif dh (p4.ab.getD (scale 1 p5.aD).toNat 0)==1 then(bif p3.aa==1 then(IV p3 0 (lQ p3.full))else(IZ p3 0))else(bif decide (p6≥0)then(bif p3.aa==1 then(IV p3 0 (lQ p3.full))else(IZ p3 0))else(bif p3.aa==1 then(IV p3 (lQ p3.half) (lQ p3.full))else(IZ p3 (lQ p3.half))))))
def lS (p1:Pos)(p2:Mv)(p3:Pos)(p4:Pos)(p5:Mv)(p6:Int):Bool:=(bif p5.bh != 0 then true else(decide (0≤p5.aD)&&decide (p5.aD<Int.ofNat 64)&&true))
abbrev UZ {α:Type}(k:Pos→Mv→Pos→Pos→Mv→Int→α)(s:St):α:=wP s 0 fun q0=>wP s 3 fun q3=>wM s 1 fun q1=>k q0 q1 q3 (Kz.Pos.mk (tI (tH s 3 10)) (tN (tH s 3 11)) (tU (tH s 3 12)) (tN (tH s 3 13)) (tI (tH s 3 14)) (tN (tH s 3 15)) (tI (tH s 3 16)) (tN (tH s 3 17)) (tI (tH s 3 18)) (tI (tH s 3 19))) (Kz.Mv.mk (tI (tH s 3 20)) (tI (tH s 3 21)) (tI (tH s 3 22)) (tI (tH s 3 23)) (tB (tH s 3 24))) (tI (tH s 3 25))
theorem TV (p1:Pos)(p2:Mv)(p3:Pos)(p4:Pos)(p5:Mv)(p6:Int)(h:lS p1 p2 p3 p4 p5 p6=true):dz Pz 73 (La p1 p2 p3 p4 p5 p6) (PJ p1 p2 p3 p4 p5 p6) (FF p1 p2 p3 p4 p5 p6 (de p1 p2 p3 p4 p5 p6))∧∃fn,Pz.funcs[73]?=some fn∧fn.body.isSome=true:=kX (n:=14) (O:=FF p1 p2 p3 p4 p5 p6) TO (fun o=>match o with | .ret v h=>(let s:St:=⟨[v],h⟩;wP s 3 fun q3=>some q3)|_=>none) (fun _=>rfl) (by kernel_rfl) (by kernel_rfl) (by kernel_rfl) (by kernel_rfl) h
def zT (xs:List AV)(h:Hp):Tr bK:=UZ (fun p1 p2 p3 p4 p5 p6=>fk xs h (La p1 p2 p3 p4 p5 p6) (PJ p1 p2 p3 p4 p5 p6) (lS p1 p2 p3 p4 p5 p6) (FF p1 p2 p3 p4 p5 p6) (de p1 p2 p3 p4 p5 p6)) ⟨xs,h⟩
theorem Bo:dH Pz 73 zT:=fun _ _ _ h=>wy (TV _ _ _ _ _ _) h
def aal:ar:=bO Pz Mq [(149,qv),(66,DN),(65,H8),(67,I7),(147,gh),(135,jt),(137,sX),(138,sN),(139,qc),(141,sT),(142,iY),(143,sR),(145,j8),(146,pB),(148,sQ)] [(70,2,pP),(71,7,wC),(71,3,yp)] [(68,jj),(69,jK),(70,mw),(71,vQ),(72,zG),(73,zT)]
theorem Sh:aP aal:=ae af ⟨qV,Fz,Kb,Kk,gm,jM,wN,vo,rh,wI,ju,vZ,kM,qY,uA,trivial⟩ ⟨mh,rR,vV,trivial⟩ ⟨gX,iG,kH,tM,zR,Bo,trivial⟩
def PQ (p1:Pos)(p2:Mv)(p3:Pos)(p4:Pos)(p5:Mv)(p6:Int):List AV:=[AV.ptr 3 0]
def Pc (p1:Pos)(p2:Mv)(p3:Pos)(p4:Pos)(p5:Mv)(p6:Int):Hp:=Hp.mk [(pc p1 []),[AV.int .i8 p2.aD,AV.int .i8 p2.to,AV.int .u8 p2.bU,AV.int .u8 p2.bh,AV.bool p2.bZ],zpB,(pc p3 (pc p4 [AV.int .i8 p5.aD,AV.int .i8 p5.to,AV.int .u8 p5.bU,AV.int .u8 p5.bh,AV.bool p5.bZ,AV.int .i64 p6]))] [] [] 0 0 0
def Fs (p1:Pos)(p2:Mv)(p3:Pos)(p4:Pos)(p5:Mv)(p6:Int)(y:(Pos)):bK := .ret (.tuple []) (Hp.mk [(pc p1 []),[.int .i8 p2.aD,.int .i8 p2.to,.int .u8 p2.bU,.int .u8 p2.bh,.bool p2.bZ],zpB,(pc y (pc p4 [.int .i8 p5.aD,.int .i8 p5.to,.int .u8 p5.bU,.int .u8 p5.bh,.bool p5.bZ,.int .i64 p6]))] [] [] 0 0 0)
def da (p1:Pos)(p2:Mv)(p3:Pos)(p4:Pos)(p5:Mv)(p6:Int):(Pos):=(bif p3.variant==5 then(bif decide (p3.au.getD (scale 1 (wr .u8 (1-wr .u8 (1-p3.aa)))).toNat 0<3)then(bif jv (u16 p3 (wr .u8 (1-p3.aa))) (wr .u8 (1-p3.aa))then(akv p3 (wr .u8 (1-p3.aa)) (p3.au.set (scale 1 (wr .u8 (1-wr .u8 (1-p3.aa)))).toNat (wr .u8 (p3.au.getD (scale 1 (wr .u8 (1-wr .u8 (1-p3.aa)))).toNat 0+1))))else(u16 p3 (wr .u8 (1-p3.aa))))else(u16 p3 (wr .u8 (1-p3.aa))))else(u16 p3 (wr .u8 (1-p3.aa))))
def mU (p1:Pos)(p2:Mv)(p3:Pos)(p4:Pos)(p5:Mv)(p6:Int):Bool:=(bif p3.variant==5 then(decide (0≤wr .u8 (1-wr .u8 (1-p3.aa)))&&decide (wr .u8 (1-wr .u8 (1-p3.aa))<Int.ofNat 2)&&(bif decide (p3.au.getD (scale 1 (wr .u8 (1-wr .u8 (1-p3.aa)))).toNat 0<3)then(mJ (u16 p3 (wr .u8 (1-p3.aa))) (wr .u8 (1-p3.aa))&&(bif jv (u16 p3 (wr .u8 (1-p3.aa))) (wr .u8 (1-p3.aa))then(decide (0≤wr .u8 (1-wr .u8 (1-p3.aa)))&&decide (wr .u8 (1-wr .u8 (1-p3.aa))<Int.ofNat 2)&&(decide (0≤wr .u8 (1-wr .u8 (1-p3.aa)))&&decide (wr .u8 (1-wr .u8 (1-p3.aa))<Int.ofNat 2)&&true))else true))else true))else true)
abbrev UA {α:Type}(k:Pos→Mv→Pos→Pos→Mv→Int→α)(s:St):α:=wP s 0 fun q0=>wP s 3 fun q3=>wM s 1 fun q1=>k q0 q1 q3 (Kz.Pos.mk (tI (tH s 3 10)) (tN (tH s 3 11)) (tU (tH s 3 12)) (tN (tH s 3 13)) (tI (tH s 3 14)) (tN (tH s 3 15)) (tI (tH s 3 16)) (tN (tH s 3 17)) (tI (tH s 3 18)) (tI (tH s 3 19))) (Kz.Mv.mk (tI (tH s 3 20)) (tI (tH s 3 21)) (tI (tH s 3 22)) (tI (tH s 3 23)) (tB (tH s 3 24))) (tI (tH s 3 25))
theorem SH (p1:Pos)(p2:Mv)(p3:Pos)(p4:Pos)(p5:Mv)(p6:Int)(h:mU p1 p2 p3 p4 p5 p6=true):dz Pz 74 (PQ p1 p2 p3 p4 p5 p6) (Pc p1 p2 p3 p4 p5 p6) (Fs p1 p2 p3 p4 p5 p6 (da p1 p2 p3 p4 p5 p6))∧∃fn,Pz.funcs[74]?=some fn∧fn.body.isSome=true:=kX (n:=14) (O:=Fs p1 p2 p3 p4 p5 p6) Sh (fun o=>match o with | .ret v h=>(let s:St:=⟨[v],h⟩;wP s 3 fun q3=>some q3)|_=>none) (fun _=>rfl) (by kernel_rfl) (by kernel_rfl) (by kernel_rfl) (by kernel_rfl) h
def GD (xs:List AV)(h:Hp):Tr bK:=UA (fun p1 p2 p3 p4 p5 p6=>fk xs h (PQ p1 p2 p3 p4 p5 p6) (Pc p1 p2 p3 p4 p5 p6) (mU p1 p2 p3 p4 p5 p6) (Fs p1 p2 p3 p4 p5 p6) (da p1 p2 p3 p4 p5 p6)) ⟨xs,h⟩
theorem LW:dH Pz 74 GD:=fun _ _ _ h=>wy (SH _ _ _ _ _ _) h
def B31:ar:=bO Pz Mq [(149,qv),(66,DN),(65,H8),(67,I7),(147,gh),(135,jt),(137,sX),(138,sN),(139,qc),(141,sT),(142,iY),(143,sR),(145,j8),(146,pB),(148,sQ)] [(70,2,pP),(71,7,wC),(71,3,yp)] [(68,jj),(69,jK),(70,mw),(71,vQ),(72,zG),(73,zT),(74,GD)]
theorem arT:aP B31:=ae af ⟨qV,Fz,Kb,Kk,gm,jM,wN,vo,rh,wI,ju,vZ,kM,qY,uA,trivial⟩ ⟨mh,rR,vV,trivial⟩ ⟨gX,iG,kH,tM,zR,Bo,LW,trivial⟩
def du (a:Pos)(b:Mv):(Pos×Bool):=(bif !Kg (bR a) b then(⟨(a.variant),(a.ab),(a.ai),(a.ah),(a.aa),(a.ao),(a.az),(a.au),(a.half),(a.full)⟩,false)else(⟨((da a b (de a b (dG a b (df a b (cU a b (cC a b (bT a b a a b (bC a b)) a b (bC a b)) a b (bC a b)) a b (bC a b)) a b (bC a b)) a b (bC a b)) a b (bC a b)).variant),((da a b (de a b (dG a b (df a b (cU a b (cC a b (bT a b a a b (bC a b)) a b (bC a b)) a b (bC a b)) a b (bC a b)) a b (bC a b)) a b (bC a b)) a b (bC a b)).ab),((da a b (de a b (dG a b (df a b (cU a b (cC a b (bT a b a a b (bC a b)) a b (bC a b)) a b (bC a b)) a b (bC a b)) a b (bC a b)) a b (bC a b)) a b (bC a b)).ai),((da a b (de a b (dG a b (df a b (cU a b (cC a b (bT a b a a b (bC a b)) a b (bC a b)) a b (bC a b)) a b (bC a b)) a b (bC a b)) a b (bC a b)) a b (bC a b)).ah),((da a b (de a b (dG a b (df a b (cU a b (cC a b (bT a b a a b (bC a b)) a b (bC a b)) a b (bC a b)) a b (bC a b)) a b (bC a b)) a b (bC a b)) a b (bC a b)).aa),((da a b (de a b (dG a b (df a b (cU a b (cC a b (bT a b a a b (bC a b)) a b (bC a b)) a b (bC a b)) a b (bC a b)) a b (bC a b)) a b (bC a b)) a b (bC a b)).ao),((da a b (de a b (dG a b (df a b (cU a b (cC a b (bT a b a a b (bC a b)) a b (bC a b)) a b (bC a b)) a b (bC a b)) a b (bC a b)) a b (bC a b)) a b (bC a b)).az),((da a b (de a b (dG a b (df a b (cU a b (cC a b (bT a b a a b (bC a b)) a b (bC a b)) a b (bC a b)) a b (bC a b)) a b (bC a b)) a b (bC a b)) a b (bC a b)).au),((da a b (de a b (dG a b (df a b (cU a b (cC a b (bT a b a a b (bC a b)) a b (bC a b)) a b (bC a b)) a b (bC a b)) a b (bC a b)) a b (bC a b)) a b (bC a b)).half),((da a b (de a b (dG a b (df a b (cU a b (cC a b (bT a b a a b (bC a b)) a b (bC a b)) a b (bC a b)) a b (bC a b)) a b (bC a b)) a b (bC a b)) a b (bC a b)).full)⟩,true))
def J7 (a:Pos)(b:Mv):Bool:=(uU a&&(De (bR a) b&&(bif !Kg (bR a) b then true else(Ji a b&&(pN a b a a b (bC a b)&&(pS a b (bT a b a a b (bC a b)) a b (bC a b)&&(qy a b (cC a b (bT a b a a b (bC a b)) a b (bC a b)) a b (bC a b)&&(oW a b (cU a b (cC a b (bT a b a a b (bC a b)) a b (bC a b)) a b (bC a b)) a b (bC a b)&&(qp a b (df a b (cU a b (cC a b (bT a b a a b (bC a b)) a b (bC a b)) a b (bC a b)) a b (bC a b)) a b (bC a b)&&(lS a b (dG a b (df a b (cU a b (cC a b (bT a b a a b (bC a b)) a b (bC a b)) a b (bC a b)) a b (bC a b)) a b (bC a b)) a b (bC a b)&&(mU a b (de a b (dG a b (df a b (cU a b (cC a b (bT a b a a b (bC a b)) a b (bC a b)) a b (bC a b)) a b (bC a b)) a b (bC a b)) a b (bC a b)) a b (bC a b)&&true)))))))))))
theorem P31 (a:Pos)(b:Mv)(h:J7 a b=true):PS Pz 31 [Pos.av a,Mv.av b] ((d2 aZ dB).res (du a b)):=pq14 arT h
def G31:GT:=g2 aZ qO (fun a b=>b7 (J7 a b) ((d2 aZ dB).res (du a b)))
theorem s31:Sound Pz 31 G31:=aO fun a b=>aA (P31 a b)
def aps:KT:=[(121,9,[(0,[1,2]),(1,[4])])]
def alE:ar:=bO Pz aps [(145,j8)] [] []
theorem af8:aP alE:=ae af ⟨kM,trivial⟩ trivial trivial
def oO (a:Pos)(b:Int):Bool:=(decide (bg a b 6≥0))
def sC (a:Pos)(b:Int):Bool:=(iz a b 6&&true)
theorem an5 (a:Pos)(b:Int)(h:sC a b=true):PS Pz 121 [Pos.av a,.int .u8 b] (dB.res (oO a b)):=pq14 af8 h
def Eb:GT:=g2 aZ (dI .u8) (fun a b=>b7 (sC a b) (dB.res (oO a b)))
theorem JG:Sound Pz 121 Eb:=aO fun a b=>aA (an5 a b)
def aqe:KT:=[(126,52,[(0,(2::3::(rn 30 10 (rn 45 6 [])))),(1,(2::5::6::(rn 30 10 (rn 45 6 [])))),(2,(2::5::14::(rn 30 10 (rn 45 6 [])))),(3,[4]),(4,(2::5::19::(rn 30 10 (rn 45 6 [])))),(5,(2::5::24::(rn 30 10 (rn 45 6 [])))),(6,[4]),(7,(2::5::40::(rn 45 6 []))),(8,[4]),(9,[4])])]
def anC:ar:=bO Pz aqe [(31,G31),(120,D9),(149,qv),(121,Eb)] [] []
theorem ae6:aP anC:=ae af ⟨s31,IC,qV,JG,trivial⟩ trivial trivial
def gi (a:Pos)(b:Mv):Bool:=(bif !(du a b).2 then(false)else(bif qA a.variant a.aa then(bif !oO (du a b).1 a.aa then(false)else(bif jv (du a b).1 a.aa then(bif a.variant != 3 then(false)else(bif oO (du a b).1 (wr .u8 (1-a.aa))then(false)else(bif a.variant != 8 then(true)else(!jv (du a b).1 (wr .u8 (1-a.aa))))))else(bif a.variant != 8 then(true)else(!jv (du a b).1 (wr .u8 (1-a.aa))))))else(bif a.variant != 8 then(true)else(!jv (du a b).1 (wr .u8 (1-a.aa))))))
def sy (a:Pos)(b:Mv):Bool:=(J7 a b&&(bif !(du a b).2 then true else(mK (a.variant) (a.aa)&&(bif qA a.variant a.aa then(sC ((du a b).1) (a.aa)&&(bif !oO (du a b).1 a.aa then true else(mJ ((du a b).1) (a.aa)&&(bif jv (du a b).1 a.aa then(bif a.variant != 3 then true else(sC ((du a b).1) (wr .u8 (1-a.aa))&&(bif oO (du a b).1 (wr .u8 (1-a.aa))then true else(bif a.variant != 8 then true else(mJ ((du a b).1) (wr .u8 (1-a.aa))&&true)))))else(bif a.variant != 8 then true else(mJ ((du a b).1) (wr .u8 (1-a.aa))&&true))))))else(bif a.variant != 8 then true else(mJ ((du a b).1) (wr .u8 (1-a.aa))&&true))))))
theorem amV (a:Pos)(b:Mv)(h:sy a b=true):PS Pz 126 [Pos.av a,Mv.av b] (dB.res (gi a b)):=pq14 ae6 h
def IL:GT:=g2 aZ qO (fun a b=>b7 (sy a b) (dB.res (gi a b)))
theorem KH:Sound Pz 126 IL:=aO fun a b=>aA (amV a b)
def Zj:ar:=gq Pz (fun _ _=>[]) [(47,G47),(126,IL)] [] []
theorem XH:aP Zj:=ae af ⟨s47,KH,trivial⟩ trivial trivial
theorem acJ (p:Pos)(m:Mv):cO Zj 14 124 [Mv.av m,.ptrf (.func 125 [] [.ptrf (Pos.av p)])]=Tr.br (sy p m) (Tr.ret (AV.bool (!gi p m))) Tr.fail:=by kernel_rfl
theorem afk (p:Pos)(m:Mv):cO Zj 14 124 [Mv.av m,.ptrf (.func 127 [] [.ptrf (Pos.av p)])]=Tr.br (xh p m) (Tr.ret (AV.bool (!hZ p m))) Tr.fail:=by kernel_rfl
theorem W9 (p:Pos)(m:Mv)(h:sy p m=true):aX Pz 124 [Mv.av m,.ptrf (.func 125 [] [.ptrf (Pos.av p)])] (.bool (!gi p m)) :=
 (FT (d:=dB) XH (acJ p m) (u9 (NA rfl)) (by rw[h];rfl)).1
theorem VK (p:Pos)(m:Mv)(h:xh p m=true):aX Pz 124 [Mv.av m,.ptrf (.func 127 [] [.ptrf (Pos.av p)])] (.bool (!hZ p m)) :=
 (FT (d:=dB) XH (afk p m) (u9 (NA rfl)) (by rw[h];rfl)).1
open Classical in
def DV (p:Pos):Bool:=shut (decide (∀m,sy p m=true))
theorem oE {p:Pos}:DV p=true ↔ ∀m,sy p m=true:=by unfold DV;rw[fH];simp
open Classical in
def Nc (p:Pos):Bool:=shut (decide (∀m,xh p m=true))
theorem rB {p:Pos}:Nc p=true ↔ ∀m,xh p m=true:=by unfold Nc;rw[fH];simp
def kept (f:Nat)(p:Pos)(l:M'):M':=l.filter (bif f.beq 125 then gi p else hZ p)
def dK (f:Nat)(p:Pos)(l:M'):Bool:=decide (l.length≤qI)&&bif f.beq 125 then DV p else f.beq 127&&Nc p
def He:List AV→Hp→Tr bK:=fun xs h=>match xs with
 | [.list .mv l _,.func f [] [.ptr b 0]]=>match h.heap[b]? with
  |some [.int .u8 v,.ints .u8 64 bd,.u64 pr,.ints .u8 12 pk,.int .u8 tn,.ints .i8 4 rk,.int .i8 ps,.ints .u8 2 ck,.int .i64 hf,.int .i64 fl] =>
   .guard (dK f ⟨v,bd,pr,pk,tn,rk,ps,ck,hf,fl⟩ l) (.ret (.ret (.list .mv (kept f ⟨v,bd,pr,pk,tn,rk,ps,ck,hf,fl⟩ l) .fresh) h))
  |_=>.fail
 |_=>.fail
theorem Ie:∃fn,Pz.funcs[122]?=some fn∧fn.body.isSome=true:=by
 have h:(match Pz.funcs[122]? with
  |some fn=>fn.body.isSome
  |none=>false)=true:=by kernel_rfl
 simp_all
theorem QE:dH Pz 122 He:=by
 intro xs h res he;unfold He at he;split at he
 ·rename_i l tk f b;split at he
  ·rename_i v bd pr pk tn rk ps ck hf fl hb;simp only[get_guard,aj,A']at he;obtain⟨h1,rfl⟩:=he;refine⟨?_,Ie⟩;unfold dK at h1;simp only[E',decide_eq_true_eq]at h1;obtain⟨hl,h1⟩:=h1;unfold kept;cases hf3:f.beq 125 with
   |true =>rw[hf3]at h1;obtain rfl:=Nat.eq_of_beq_eq_true hf3;exact Hx (p:=⟨v,bd,pr,pk,tn,rk,ps,ck,hf,fl⟩) hb (Xc _ _ _ l hl fun m=>W9 _ m (oE.1 h1 m))
   |false =>rw[hf3]at h1;simp only[cond_false,E']at h1;obtain rfl:=Nat.eq_of_beq_eq_true h1.1;exact Hx (p:=⟨v,bd,pr,pk,tn,rk,ps,ck,hf,fl⟩) hb (Xc _ _ _ l hl fun m=>VK _ m (rB.1 h1.2 m))
  ·simp at he
 ·simp at he
end Kz
namespace Go.Proofs
open Go.Shelf Go.RowKit Go.Lib Go.Sort Kz
def mT (w w':World)(a:Option Addr)(cap:Nat)(l:M'):Prop :=
 (a=none∧l=[]∧cap=0)∨∃b ty,a=some ⟨b,0,none⟩∧w.heap.size≤b∧b<w'.heap.size∧l.length≤cap∧cap≤maxLen∧dq w' b cap ty l.toArray w'
set_option maxHeartbeats 2000000 in
set_option maxRecDepth 100000 in
theorem W8 (p:Pos)(f2:Nat)(q:Mv→Bool)(l:M')(hll:l.length≤qI)(hq:∀m,aX Tryz.prog 124 [Mv.av m,.ptrf (.func f2 [] [.ptrf (Pos.av p)])] (.bool (!q m)))(w:World)(bp:Array Value)(hg:cN w)(hr:aI (cK w) [] w [.list .mv l .arg,.func f2 [] [.ptrf (Pos.av p)]] bp.toList) :
  Calls Tryz.prog 122 bp w fun e w'=>∃a cap,e=.returned (.slice a (l.filter q).length cap)∧RowKit.Below w.heap.size w w'∧mT w w' a cap (l.filter q):=by
 obtain⟨bp⟩:=bp;cases hr with
 |cons q1 r1 =>
 cases r1 with
 |cons q2 r2 =>
 cases r2;cases q2 with
 |func ha hb =>
 rename_i x y;obtain⟨x⟩:=x;obtain⟨y⟩:=y;cases ha;cases hb with
 |cons q3 r3 =>
 cases r3;cases q3 with
 |ptrf hpc hpa =>
 rename_i pc po pcs;cases q1 with
 |list hn hE hS hT hC =>
 rename_i a n cap cs;subst hn;have hcs:=dN hE;obtain⟨fv,hfv⟩:∃fv:Value,fv=.func (.func f2) (Array.mk []) (Array.mk [.pointer (some ⟨pc,po,none⟩)]):=⟨_,rfl⟩;rw[←hfv]
 have hpred:∀(W:World) (u:Mv),w.heap.size+1≤W.heap.size→(∀k,k<w.heap.size+1→W.heap[k]?=(w.alloc (.cells #[fv] 74)).heap[k]?) →
   Calls Tryz.prog 124 (#[.agg (bQ u).toArray]++#[.pointer (some ⟨w.heap.size,0,none⟩)]) W fun e w'=>e=.returned (.bool (!q u))∧RowKit.Below W.heap.size W w':=by
  intro W u hsz hsame
  have old:∀k,k<w.heap.size→W.heap[k]?=w.heap[k]? := fun k hk=>by
   rw[hsame k (by omega)]
   exact((Below.refl _ w).alloc (Nat.le_refl _) _).block k hk
  refine(callsIn_wide.1 (hq u W (#[.agg (bQ u).toArray]++#[.pointer (some ⟨w.heap.size,0,none⟩)]) ?_ ?_)).mono ?_
  ·exact gK hg (by omega) old
  ·refine .cons (.agg (my _ _ _ u)) (.cons (.ptrf (cs:=[fv]) (.one rfl ?_ .nil) ?_) .nil)
   ·rw[hfv]
    refine .func .nil (.cons (.ptrf (b8 hpc) ?_) .nil)
    intro j x hj
    obtain⟨h1,h2⟩:=hpa j x hj
    have hlt:pc<w.heap.size:=h2
    exact⟨by rw[cd (old _ hlt)];exact h1,Nat.lt_of_lt_of_le hlt (by omega)⟩
   ·intro j x hj
    have hc:W.heap[w.heap.size]?=some (.cells #[fv] 74 (0,0)):=by
     rw[hsame _ (Nat.lt_succ_self _)];exact heap_alloc_new w _
    refine⟨?_,show w.heap.size<W.heap.size by omega⟩
    rw[aw hc,Nat.zero_add]
    simpa using hj
  ·rintro e w' ⟨v,rfl,hb,hv⟩
   cases hv
   exact⟨rfl,hb⟩
 subst hfv;clear hpc hpa;cases a with
 |none =>
  obtain rfl:l=[]:=by
   rcases hS with h|⟨_,_,h,_⟩
   ·have:=cZ l;rw[←hcs,h]at this;exact List.eq_nil_of_length_eq_zero (by simp at this;omega)
   ·cases h
  have hc:=fun w=>AnyE.slices_Clone_nil Tryz.zB 0 cap w;have hd:=aaJ none 0 (.func (.func 124) #[] #[.pointer (some ⟨w.heap.size,0,none⟩)]);clear hpred hS hcs hE hT;go_enter Tryz.func122,Tryz.ntmps122;go_wp2_with fail;refine(hc _).mono ?_;rintro e w' ⟨rfl,rfl⟩;go_wp2_with fail;refine(hd _).mono ?_;rintro e w' ⟨rfl,rfl⟩;go_wp2_with fail;go_ret;exact⟨_,_,rfl,(Below.refl _ w).alloc (Nat.le_refl _) _,.inl ⟨rfl,rfl,rfl⟩⟩
 |some ad =>
  have hclone:Calls Tryz.prog 123 #[.slice (some ad) l.length cap] (w.alloc (.cells #[(.func (.func f2) (Array.mk []) (Array.mk [.pointer (some ⟨pc,po,none⟩)]))] 74)) fun e w'=>∃v',e=.returned v'∧w'.ownsRow (w.alloc (.cells #[(.func (.func f2) (Array.mk []) (Array.mk [.pointer (some ⟨pc,po,none⟩)]))] 74)).heap.size 47 5 v' l.length (l.flatMap bQ)∧v'≠.slice none 0 0∧RowKit.Below (w.alloc (.cells #[(.func (.func f2) (Array.mk []) (Array.mk [.pointer (some ⟨pc,po,none⟩)]))] 74)).heap.size (w.alloc (.cells #[(.func (.func f2) (Array.mk []) (Array.mk [.pointer (some ⟨pc,po,none⟩)]))] 74)) w':=by
   by_cases hl:l=[]
   ·subst hl;exact Ml ad cap _
   ·obtain⟨c,o,hadr,hat,_⟩:=hS.resolve_left (fun e0=>hl (by
     have:=cZ l
     rw[←hcs,e0]at this
     exact List.eq_nil_of_length_eq_zero (by simp at this;omega)))
    simp only[A']at hadr;subst hadr;obtain⟨i0,z,a1,a2,a3,a4,a5⟩:=uL;refine AnyE.slices_Clone Tryz.zB i0 z 5 i0.bytes a1 a2 a3 rfl a4 (by omega) Tryz.sizeOf47 c o l.length cap (l.flatMap bQ) _ (cZ l) ?_ ?_ ?_ (Dz l)
    ·unfold qI at hll;unfold maxLen;omega
    ·have:l.length*i0.bytes≤l.length*131072:=Nat.mul_le_mul_left _ a5;unfold qI at hll;omega
    ·intro j u hj;rw[←hcs]at hj;obtain⟨h1,h2⟩:=hat j u hj;have hlt:c<w.heap.size:=h2;rw[cd (((Below.refl _ w).alloc (Nat.le_refl _) _).block c hlt)];exact h1
  clear hS hcs hE hT;have HP:=Lib.hid hpred;clear hpred;go_enter Tryz.func122,Tryz.ntmps122;go_wp2_with fail;refine hclone.mono ?_;rintro e w2 ⟨v',rfl,hown,hne,hb⟩;obtain⟨hlen,⟨rfl,_⟩|⟨gb,cap',cur,rfl,hgb,hcur,hn',hmax,hsz,htake⟩⟩:=hown
  ·exact absurd rfl hne
  have hrow:dq w2 gb cap' 47 l.toArray w2:=⟨rfl,rfl,rfl,Nat.le_refl _,fun _ _ _=>rfl,cur,hcur,hsz,fun j c hj hc=>by
   have hj':j<l.length:=by simpa using hj
   have h1:j*5+c<l.length*5:=by have:=(by omega);omega
   rw[←Array.getElem?_toList,←List.getElem?_take_of_lt h1,htake,eE l j c hj' hc]
   simp_all⟩
  have hdel:=adM (fun u => !q u) 124 #[.pointer (some ⟨w.heap.size,0,none⟩)] (fun _ _=>rfl) gb cap' l.toArray w2 (aB hcur) hrow (by simpa using hn') hmax (fun W dk u hW=>by
   have hs1:(w.alloc (.cells #[(.func (.func f2) (Array.mk []) (Array.mk [.pointer (some ⟨pc,po,none⟩)]))] 74)).heap.size=w.heap.size+1:=by simp
   refine HP.out W u (by have:=hb.size;have:=hW.size;omega) (fun k hk=>?_)
   rw[hW.other k (by have:=hb.size;omega) (by omega),hb.block k (by omega)])
  simp only[List.size_toArray,Bool.not_not]at hdel;have HD:=Lib.hid hdel;have HBW:=Lib.hid hb;have HG:=Lib.hid hgb;have HN:=Lib.hid hn';have HM:=Lib.hid hmax;clear hdel HP hrow hb hgb hn' hcur hsz htake hlen hne hmax hclone;go_wp2_with fail;refine HD.out.mono ?_;rintro e w3 ⟨rfl,hR⟩;have HR:=Lib.hid hR;clear hR;go_wp2_with fail;go_ret;have hR:=HR.out;have hb:=HBW.out;have hgb:=HG.out;have hs1:(w.alloc (.cells #[(.func (.func f2) (Array.mk []) (Array.mk [.pointer (some ⟨pc,po,none⟩)]))] 74)).heap.size=w.heap.size+1:=by simp
  have hw1:RowKit.Below w.heap.size w (w.alloc (.cells #[(.func (.func f2) (Array.mk []) (Array.mk [.pointer (some ⟨pc,po,none⟩)]))] 74)):=(Below.refl _ w).alloc (Nat.le_refl _) _
  have hbw:RowKit.Below w.heap.size w w3:=⟨hR.os.trans (hb.os.trans hw1.os),hR.tape.trans (hb.tape.trans hw1.tape),hR.output.trans (hb.output.trans hw1.output),by have:=hR.size;have:=hb.size;omega,fun k hk=>by
   rw[hR.other k (by have:=hb.size;omega) (by omega),hb.block k (by omega)]
   exact hw1.block k hk⟩
  have hfl:(l.filter q).length≤l.length:=by grind
  obtain⟨cur,k1,k2,k3⟩:=hR.row;exact⟨_,_,rfl,hbw,.inr ⟨gb,47,rfl,by omega,aB k1,Nat.le_trans hfl HN.out,HM.out,rfl,rfl,rfl,Nat.le_refl _,fun _ _ _=>rfl,cur,k1,k2,k3⟩⟩
end Go.Proofs
namespace Kz
open Go Go.RowKit Go.Proofs
set_option maxRecDepth 100000
set_option maxHeartbeats 4000000
noncomputable section
variable {g:Gh}{h:Hp}{w:World}
theorem MR.newRow (m:MR g h w){w':World}{b cap z n:Nat}{cells:Array Value}{ty:TypeId}(hb:RowKit.Below w.heap.size w w')(h1:w.heap.size≤b)(h2:w'.heap[b]?=some (.cells cells ty (0,0)))(h3:Ab z cap cells.size ty)(h4:n≤cap)(h5:cap≤maxLen) :
  MR { g with fz:=fun c o=>g.fz c o∨(c=b∧o<n*Bi z),own:=g.own++[some (b,cap,z)] } { h with ag:=h.ag++[n] } w' ∧
   Le g h.ag w { g with fz:=fun c o=>g.fz c o∨(c=b∧o<n*Bi z),own:=g.own++[some (b,cap,z)] } (h.ag++[n]) w':=by
 obtain⟨m1,l1⟩:=m.grow hb
 have l2:Le g h.ag w' { g with fz:=fun c o=>g.fz c o∨(c=b∧o<n*Bi z),own:=g.own++[some (b,cap,z)] } (h.ag++[n]) w' :=
  ⟨rfl,Below.refl _ _,fun _ _ x=>.inl x,fun _ _ _ _ x=>x,fun _ _ x=>x,fun _ _ x=>x,fun _ x=>x,fun k q x=>⟨q,by
   grind,Nat.le_refl _,fun _=>by
   have:=(C'.1 x).1
   simp only
   rw[List.getElem?_append_left (by rw[m.dW];exact this)]⟩,fun _ _ _=>rfl⟩
 have hle:=l1.trans l2;have old:∀{c:Nat} {o:Obj},w.heap[c]?=some o→c≠b:=by grind
 have new:∀(k:Nat) x,(g.own++[some (b,cap,z)])[k]?=some x→g.own[k]?=some x∨(k=g.own.length∧x=some (b,cap,z)):=by
  intro i c' x;rcases Nat.lt_or_ge i g.own.length with h' |h'
  ·grind
  ·grind
 have tokOld:∀(k:Nat) x,h.ag[k]?=some x→(h.ag++[n])[k]?=some x:=by grind
 refine⟨⟨m1.base,fun c o x=>?_,m1.dE,fun i c l k1 k2=>?_,m1.xb,by simp[m.dW],fun k k1=>?_,fun k b' cap' z' k1=>?_,fun k k' b' c1 z1 c2 z2 k1 k2=>?_,m1.gN,fun l c r k1 k2=>?_,m1.xc,m1.defs,fun p hp=>(m.iN p hp).mono hle⟩,hle⟩
 ·rcases x with x|⟨rfl,_⟩
  ·exact m1.fE c o x
  ·exact aB h2
 ·obtain⟨a,f,cs,d',e⟩:=m1.var i c l k1 k2;obtain⟨_,_,_,d0,_⟩:=m.var i c l k1 k2;refine⟨a,fun o x=>?_,cs,d',e.mono l2⟩;simp_all
 ·rcases new k _ k1 with a|⟨_,e⟩
  ·obtain⟨n',hn'⟩:=m.jN k a;simp_all
  ·cases e
 ·rcases new k _ k1 with a|⟨e1,e2⟩
  ·obtain⟨q,cs,t,a1,a2,a3,a4,a5,a6,a7,a8⟩:=m1.tok k b' cap' z' a;obtain⟨_,_,_,_,_,_,_,d0,_⟩:=m.tok k b' cap' z' a;grind
  ·simp only[A',Prod.mk.injEq]at e2;obtain⟨rfl,rfl,rfl⟩:=e2;refine⟨n,cells,ty,?_,h4,h5,Nat.le_trans m.base h1,h2,h3,fun o x=>?_,fun hv=>?_⟩
   ·show(h.ag++[n])[k]?=_;rw[e1,m.dW];simp
   ·rcases x with x|⟨_,x⟩
    ·have:=m.fE _ _ x;omega
    ·exact x
   ·obtain⟨i,hi⟩:=List.getElem?_of_mem hv;have hi':=(C'.1 hi).1;obtain⟨_,_,_,d,_⟩:=m.var i _ _ hi (I' (by rw[←m.dE];exact hi'));simp_all
 ·have notown:∀(j c z':Nat),g.own[j]?≠some (some (b,c,z')):=fun j c z' x=>by obtain⟨_,_,_,_,_,_,_,d,_⟩:=m.tok j _ c z' x;simp_all
  rcases new k _ k1 with a|⟨e1,e2⟩<;>rcases new k' _ k2 with b' |⟨e3,e4⟩
  ·exact m1.xe k k' _ c1 z1 c2 z2 a b'
  ·simp_all
  ·simp_all
  ·omega
 ·obtain⟨a,R,f,d'⟩:=m1.loop l c r k1 k2;exact⟨a,R,f,d'.mono l2⟩
theorem MR.Uu (m:MR g h w){w':World}(hb:RowKit.Below w.heap.size w w') :
  MR { g with own:=g.own++[none] } { h with ag:=h.ag++[0] } w'∧Le g h.ag w { g with own:=g.own++[none] } (h.ag++[0]) w':=by obtain⟨m1,l1⟩:=m.grow hb;obtain⟨m2,l2⟩:=m1.kG;exact⟨m2,l1.trans l2⟩
end
theorem Dw {f:Nat}{l l':M'}{tk:Tk}{f2 b:Nat}{p:Pos}{h:Hp}(hb:h.heap[b]?=some (bf (Pos.av p)))(hs:∀(w:World) (bp:Array Value),cN w→aI (cK w) [] w [.list .mv l .arg,.func f2 [] [.ptrf (Pos.av p)]] bp.toList→Calls Pz f bp w fun e w'=>∃a cap,e=.returned (.slice a l'.length cap)∧RowKit.Below w.heap.size w w'∧mT w w' a cap l') :
  dz Pz f [.list .mv l tk,.func f2 [] [.ptr b 0]] h (.ret (.list .mv l' (.own h.ag.length)) { h with ag:=h.ag++[l'.length] }):=by
 intro g w bp m hr;have hr':aI (cK w) [] w [.list .mv l .arg,.func f2 [] [.ptrf (Pos.av p)]] bp.toList:=by
  obtain⟨bp⟩:=bp;cases hr with
  |cons q1 r1 =>
  cases r1 with
  |cons q2 r2 =>
  cases r2;cases q1 with
  |list hn hE hS hT hC =>
  rename_i a n cap cs;cases q2 with
  |func ha hb2 =>
  rename_i x y;obtain⟨x⟩:=x;obtain⟨y⟩:=y;cases ha;cases hb2 with
  |cons q3 r3 =>
  cases r3;cases q3 with
  |ptr hv =>
  rename_i c;obtain⟨_,_,cells,ty,hc,hcells⟩:=m.TJ hv hb rfl
  refine .cons (.list (cs:=cs) hn (by rw[dN hE];exact iJ _ _ _ _) (hS.imp id fun ⟨c',o',e1,e2,_⟩=>⟨c',o',e1,fun j x hj=>⟨(e2 j x hj).1,m.fE _ _ (e2 j x hj).2⟩,fun f=>absurd rfl f⟩) (fun k e=>by cases e) hC)
   (.cons (.func .nil (.cons (.ptrf (cs:=cells.toList) (b8 hcells) fun j x hj=>⟨by rw[aw hc,Nat.zero_add];simpa using hj,aB hc⟩) .nil)) .nil)
 refine callsIn_wide.2 ((hs w bp m.vN hr').mono ?_);rintro e w' ⟨a,cap,rfl,hbl,hx⟩;rcases hx with⟨rfl,rfl,rfl⟩|⟨b',ty,rfl,k1,k2,k3,k4,hrow⟩
 ·obtain⟨m1,l1⟩:=m.Uu hbl
  exact⟨_,_,rfl,⟨m1,l1,⟨rfl,rfl,rfl,fun _ _ _ x=>x,by grind,fun _ _ _ x=>x⟩⟩,
   .list (cs:=[]) rfl .nil (.inl rfl) (fun k ek=>by cases ek;exact⟨0,by simp,Nat.le_refl _,fun _=>⟨none,by simp[m.dW],rfl,rfl,rfl⟩⟩) (Nat.le_refl _)⟩
 ·obtain⟨cur,c1,c2,c3⟩:=hrow.row;obtain⟨m1,l1⟩:=m.newRow (z:=5) hbl k1 c1 ⟨c2,fun e=>by cases e⟩ k3 k4;refine⟨_,_,rfl,⟨m1,l1,⟨rfl,rfl,rfl,fun _ _ _ x=>x,by grind,fun _ _ _ x=>x⟩⟩,?_⟩;refine .list (cs:=l'.flatMap bQ) rfl (iJ _ _ _ _) (.inr ⟨b',0,rfl,fun j x hj=>?_,fun _=>Nat.le_trans m.base k1⟩) (fun k ek=>by cases ek;exact⟨l'.length,by simp,Nat.le_refl _,fun _=>⟨some (b',cap,5),by simp[m.dW],rfl,rfl,rfl⟩⟩) k3;have hjl:j<l'.length*5:=by rw[←cZ];exact(by grind)
  have hdm:j=j / 5*5+j%5:=by omega
  have hq5:j / 5<l'.length:=by omega
  have hfl:=eE l' (j / 5) (j%5) hq5 (by omega);rw[←hdm,hj]at hfl;refine⟨?_,.inr ⟨rfl,show 0+j<l'.length*5 by omega⟩⟩;rw[aw c1,Nat.zero_add];grind
def FK:List AV→Hp→Tr bK:=fun xs h=>match xs with
 | [.list .mv l _,.func f [] [.ptr b 0]]=>match h.heap[b]? with
  |some [.int .u8 v,.ints .u8 64 bd,.u64 pr,.ints .u8 12 pk,.int .u8 tn,.ints .i8 4 rk,.int .i8 ps,.ints .u8 2 ck,.int .i64 hf,.int .i64 fl] =>
   .guard (dK f ⟨v,bd,pr,pk,tn,rk,ps,ck,hf,fl⟩ l) (.ret (.ret (.list .mv (kept f ⟨v,bd,pr,pk,tn,rk,ps,ck,hf,fl⟩ l) (.own h.ag.length)) { h with ag:=h.ag++[(kept f ⟨v,bd,pr,pk,tn,rk,ps,ck,hf,fl⟩ l).length] }))
  |_=>.fail
 |_=>.fail
theorem sFK:dH Pz 122 FK:=by
 intro xs h res he;unfold FK at he;split at he
 ·rename_i l tk f b;split at he
  ·rename_i v bd pr pk tn rk ps ck hf fl hb;simp only[get_guard,aj,A']at he;obtain⟨h1,rfl⟩:=he;refine⟨?_,Ie⟩;unfold dK at h1;simp only[E',decide_eq_true_eq]at h1;obtain⟨hl,h1⟩:=h1;unfold kept;cases hf3:f.beq 125 with
   |true =>rw[hf3]at h1;obtain rfl:=Nat.eq_of_beq_eq_true hf3;exact Dw (p:=⟨v,bd,pr,pk,tn,rk,ps,ck,hf,fl⟩) hb (fun w bp hg hr=>W8 _ _ _ l hl (fun m=>W9 _ m (oE.1 h1 m)) w bp hg hr)
   |false =>rw[hf3]at h1;simp only[cond_false,E']at h1;obtain rfl:=Nat.eq_of_beq_eq_true h1.1;exact Dw (p:=⟨v,bd,pr,pk,tn,rk,ps,ck,hf,fl⟩) hb (fun w bp hg hr=>W8 _ _ _ l hl (fun m=>VK _ m (rB.1 h1.2 m)) w bp hg hr)
  ·simp at he
 ·simp at he
end Kz
namespace Kz
open Go Go.RowKit Go.Proofs
def alU:KT:=[]
def aej:ar:=bO Pz alU [] [] []
theorem ad3:aP aej:=ae af trivial trivial trivial
def V57:AV:=AV.agg [AV.nilfunc,AV.nilfunc,AV.nilfunc,AV.func 182 [] [],AV.func 186 [] [],AV.func 183 [] [],AV.func 184 [] [],AV.func 185 [] [],AV.func 187 [] []]
def ac1:Bool:=true
theorem apn:cO aej 14 119 []=Tr.ret V57:=by kernel_rfl
theorem aoX (_:ac1=true):PS Pz 119 [] V57:=nq ad3 (by rw[apn];rfl)
def adH:GT:=g0 (.ret V57)
theorem aoe:Sound Pz 119 adH:=tV (bH (aoX rfl))
def ato:KT:=[(229,9,[(0,[0,1,4]),(1,[4])])]
def asP:ar:=bO Pz ato [] [] []
theorem afO:aP asP:=ae af trivial trivial trivial
def dn (a:Int)(b:Int):(Int×Int):=⟨(wr .u8 (1+a)),(b)⟩
def aiG (a:Int)(b:Int):Bool:=true
theorem apS (a:Int)(b:Int)(h:aiG a b=true):PS Pz 229 [.int .u8 a,.int .u8 b] ((dR .u8 .u8).res (dn a b)):=pq14 afO h
def C0:GT:=g2 (dI .u8) (dI .u8) (fun a b=>.ret ((dR .u8 .u8).res (dn a b)))
theorem ED:Sound Pz 229 C0:=aO fun a b=>bH (apS a b rfl)
def atG:KT:=[(182,13,[(0,[1,2]),(1,[1,2,7]),(2,[2]),(3,[2])])]
def asc:ar:=bO Pz atG [(121,Eb),(229,C0)] [] []
theorem air:aP asc:=ae af ⟨JG,ED,trivial⟩ trivial trivial
def Aw (a:Pos):(Int×Int):=(bif !oO a a.aa then⟨((dn (wr .u8 (1-a.aa)) 6).1),((dn (wr .u8 (1-a.aa)) 6).2)⟩else⟨(0),(0)⟩)
def F6 (a:Pos):Bool:=(sC a (a.aa)&&true)
theorem aoD (a:Pos)(h:F6 a=true):PS Pz 182 [Pos.av a] ((dR .u8 .u8).res (Aw a)):=pq14 air h
def aiv:GT:=g1 aZ (fun a=>b7 (F6 a) ((dR .u8 .u8).res (Aw a)))
theorem aqO:Sound Pz 182 aiv:=aH fun a=>aA (aoD a)
def asi:KT:=[(183,6,[(0,[1,2]),(1,[2])]),(230,28,[(0,[1,2,3,6]),(1,[1,2,6,14,15,16]),(2,(1::2::6::(rn 14 4 []))),(3,[1,2,6,8,14,15,16]),(4,[1,2,6,8,14,15,16,22]),(5,[6]),(6,[1,2,6,14,15,16]),(7,[6])]),(231,9,[(0,[0,1]),(1,[3])])]
def aqD:ar:=bO Pz asi [(229,C0)] [] []
theorem afW:aP aqD:=ae af ⟨ED,trivial⟩ trivial trivial
def As (a:Pos):(Int×Int):=(bif decide (a.au.getD (scale 1 (wr .u8 (1-a.aa))).toNat 0≥3)then⟨((dn (wr .u8 (1-a.aa)) 7).1),((dn (wr .u8 (1-a.aa)) 7).2)⟩else(bif decide (a.au.getD (scale 1 a.aa).toNat 0≥3)then⟨((dn a.aa 7).1),((dn a.aa 7).2)⟩else⟨(0),(0)⟩))
def BY (a:Pos):Bool:=(decide (0≤wr .u8 (1-a.aa))&&decide (wr .u8 (1-a.aa) < ↑2)&&(bif decide (a.au.getD (scale 1 (wr .u8 (1-a.aa))).toNat 0≥3)then true else(decide (0≤a.aa)&&decide (a.aa < ↑2)&&true)))
theorem akB (a:Pos)(h:BY a=true):PS Pz 183 [Pos.av a] ((dR .u8 .u8).res (As a)):=pq14 afW h
def ahl:GT:=g1 aZ (fun a=>b7 (BY a) ((dR .u8 .u8).res (As a)))
theorem asu:Sound Pz 183 ahl:=aH fun a=>aA (akB a)
def anl:KT:=[(184,6,[(0,[1,2]),(1,[2])]),(230,28,[(0,[1,2,3,6]),(1,[1,2,6,14,15,16]),(2,(1::2::6::(rn 14 4 []))),(3,[1,2,6,8,14,15,16]),(4,[1,2,6,8,14,15,16,22]),(5,[6]),(6,[1,2,6,14,15,16]),(7,[6])]),(232,17,[(0,(0::1::(rn 11 5 []))),(1,(4::(rn 11 5 []))),(2,[3])])]
def aqZ:ar:=bO Pz anl [(145,j8),(229,C0)] [] []
theorem ah6:aP aqZ:=ae af ⟨kM,ED,trivial⟩ trivial trivial
def AE (a:Pos):(Int×Int):=(bif decide (bg a (wr .u8 (1-a.aa)) 6≥0)then(bif lF BinOp.and .i64 (Int.fdiv 103481868288 (2^min (BitVec.ofInt 64 (bg a (wr .u8 (1-a.aa)) 6)).toNat 64)) 1==1 then⟨((dn (wr .u8 (1-a.aa)) 6).1),((dn (wr .u8 (1-a.aa)) 6).2)⟩else(bif decide (bg a a.aa 6≥0)then(bif lF BinOp.and .i64 (Int.fdiv 103481868288 (2^min (BitVec.ofInt 64 (bg a a.aa 6)).toNat 64)) 1==1 then⟨((dn a.aa 6).1),((dn a.aa 6).2)⟩else⟨(0),(0)⟩)else⟨(0),(0)⟩))else(bif decide (bg a a.aa 6≥0)then(bif lF BinOp.and .i64 (Int.fdiv 103481868288 (2^min (BitVec.ofInt 64 (bg a a.aa 6)).toNat 64)) 1==1 then⟨((dn a.aa 6).1),((dn a.aa 6).2)⟩else⟨(0),(0)⟩)else⟨(0),(0)⟩))
def Bz (a:Pos):Bool:=(iz a (wr .u8 (1-a.aa)) 6&&(bif decide (bg a (wr .u8 (1-a.aa)) 6≥0)then(bif lF BinOp.and .i64 (Int.fdiv 103481868288 (2^min (BitVec.ofInt 64 (bg a (wr .u8 (1-a.aa)) 6)).toNat 64)) 1==1 then true else(iz a (a.aa) 6&&true))else(iz a (a.aa) 6&&true)))
theorem apb (a:Pos)(h:Bz a=true):PS Pz 184 [Pos.av a] ((dR .u8 .u8).res (AE a)):=pq14 ah6 h
def agF:GT:=g1 aZ (fun a=>b7 (Bz a) ((dR .u8 .u8).res (AE a)))
theorem as8:Sound Pz 184 agF:=aH fun a=>aA (apb a)
def amO:KT:=[(185,8,[(0,[1,2]),(1,[2,5]),(2,[2]),(3,[2])])]
def alb:ar:=bO Pz amO [(147,gh),(229,C0)] [] []
theorem afv:aP alb:=ae af ⟨gm,ED,trivial⟩ trivial trivial
def A7 (a:Pos):(Int×Int):=(bif aS a 0 0==0#64 then⟨((dn 1 8).1),((dn 1 8).2)⟩else⟨(0),(0)⟩)
def Gs (a:Pos):Bool:=(cE a 0 0&&true)
theorem am1 (a:Pos)(h:Gs a=true):PS Pz 185 [Pos.av a] ((dR .u8 .u8).res (A7 a)):=pq14 afv h
def aiL:GT:=g1 aZ (fun a=>b7 (Gs a) ((dR .u8 .u8).res (A7 a)))
theorem asb:Sound Pz 185 aiL:=aH fun a=>aA (am1 a)
def atz:KT:=[(186,24,[(0,[1,2]),(1,[1,2,10,11,12]),(2,(1::2::(rn 10 4 []))),(3,[1,2,4,10,11,12]),(4,[1,2,4,10,11,12,19]),(5,[2]),(6,[1,2,10,11,12]),(7,[2])])]
def asp:ar:=bO Pz atz [(147,gh),(229,C0)] [] []
theorem ajr:aP asp:=ae af ⟨gm,ED,trivial⟩ trivial trivial
def zK (a:Pos):(Int×Int):=(bif aS a a.aa 0==0#64 then⟨((dn a.aa 8).1),((dn a.aa 8).2)⟩else(bif aS a (wr .u8 (1-a.aa)) 0==0#64 then⟨((dn (wr .u8 (1-a.aa)) 8).1),((dn (wr .u8 (1-a.aa)) 8).2)⟩else⟨(0),(0)⟩))
def Dy (a:Pos):Bool:=(cE a (a.aa) 0&&(bif aS a a.aa 0==0#64 then true else(cE a (wr .u8 (1-a.aa)) 0&&true)))
theorem aub (a:Pos)(h:Dy a=true):PS Pz 186 [Pos.av a] ((dR .u8 .u8).res (zK a)):=pq14 ajr h
def aeu:GT:=g1 aZ (fun a=>b7 (Dy a) ((dR .u8 .u8).res (zK a)))
theorem aoj:Sound Pz 186 aeu:=aH fun a=>aA (aub a)
def K64:KT:=[(64,37,[(0,(1::(rn 12 5 [28,29,30]))),(1,[1,17,28,29,30]),(2,[2]),(3,[1,3,28,29,30]),(4,[1,3,4,28,29,30]),(5,[1,3,4,5,28,29,30]),(6,[3,4,5,31]),(7,[4]),(8,[2])]),(122,9,[(0,[0,3]),(1,[4])]),(125,7,[(0,[1,2]),(1,[3])]),(127,7,[(0,[1,2]),(1,[3])]),(128,9,[(0,[0,1]),(1,[4])]),(110,19,[(0,[0,1]),(1,[0,1,7,8]),(2,[0,1,7,8,9]),(3,[0,1,5,7,8]),(4,[0,1,5,7,8,16]),(5,[4]),(6,[0,1,7,8]),(7,[4])])]
def agj:ar:=bO Pz K64 [(120,D9),(66,DN),(47,G47),(126,IL),(121,Eb)] [] [(122,He)]
theorem YC:aP agj:=ae af ⟨IC,Fz,s47,KH,JG,trivial⟩ trivial ⟨QE,trivial⟩
def WR (p1:M')(p2:Int)(p3:Pos)(x:(Int)):St:=St.mk (.list .mv p1 .fresh::.func 127 [] [.ptr 0 0]::(an 5 (.int .i64 p2::.int .i64 x::(an 10 [])))) (Hp.mk [(pc p3 [])] [0] [] 0 0 0)
def VB (p1:M')(p2:Int)(p3:Pos):(Int) ⊕ (Int×Bool)→Out
 |(.inl (y))=>.ret (St.mk (an 4 (AV.int .i64 y::(an 14 []))) (Hp.mk [(pc p3 [])] [0] [] 0 0 0))
 |(.inr (y))=>.exit 0 (St.mk (AV.list ET.mv p1 Tk.fresh::AV.func 127 [] [AV.ptr 0 0]::(an 5 (AV.int .i64 p2::AV.int .i64 y.1::AV.bool y.2::(an 9 [])))) (Hp.mk [(pc p3 [])] [0] [] 0 0 0))
def abk (p1:M')(p2:Int)(p3:Pos)(x:(Int)):aG (Int) ((Int) ⊕ (Int×Bool)):=(bif decide (x<p2)then(bif hZ p3 (p1.getD x.toNat default)then(aG.out (.inl x))else(aG.go (wr .i64 (x+1))))else(aG.out (.inr ((x,decide (x<p2))))))
def TI (p1:M')(p2:Int)(p3:Pos)(x:(Int)):Bool:=(bif decide (x<p2)then(decide (0≤x)&&decide (x<Int.ofNat p1.length)&&(xh p3 (p1.getD x.toNat default)&&true))else true)
def ei (p1:M')(p2:Int)(p3:Pos)(x:(Int)):Option ((Int) ⊕ (Int×Bool)):=cW (fun x=>bif TI p1 p2 p3 x then abk p1 p2 p3 x else .bad) many x
abbrev WB {α:Type}(k:M'→Int→Pos→(Int)→α)(s:St):α:=wP s 0 fun q0=>k (tL (ET.mv) (tT s 0)) (tI (tT s 7)) q0 ((tI (tT s 8)))
theorem aeG (p1:M')(p2:Int)(p3:Pos)(x:(Int))(r:(Int) ⊕ (Int×Bool))(h:ei p1 p2 p3 x=some r):aC Pz (bc Pz 110 2) (WR p1 p2 p3 x) (VB p1 p2 p3 r):=aC.Be (m:=12) (fn:=110) YC (WB fun _ _ _ x=>some x) (fun o=>match o with | .ret s=>some (.inl (tI (tT s 4))) | .exit 0 s=>some (.inr ((tI (tT s 8)),(tB (tT s 9))))|_=>none) (fun r=>by cases r<;>rfl) (fun _=>by kernel_rfl) (fun _=>by kernel_rfl) (fun _=>by kernel_rfl) (fun _=>by kernel_rfl) many x r h
def VM (b:Code)(s:St):Tr Out:=WB (fun p1 p2 p3 x=>Bg b (bc Pz 110 2) s (WR p1 p2 p3 x) (ei p1 p2 p3 x) (VB p1 p2 p3)) s
theorem aak:∀b,aT Pz b (VM b):=fun _ _ _ h=>eZ (aeG _ _ _ _) h
def B64:ar:=bO Pz K64 [(120,D9),(66,DN),(47,G47),(126,IL),(121,Eb)] [(110,2,VM)] [(122,He)]
theorem art:aP B64:=ae af ⟨IC,Fz,s47,KH,JG,trivial⟩ ⟨aak,trivial⟩ ⟨QE,trivial⟩
def lI (a:Pos):M':=(bif qA a.variant a.aa then(bif !oO a a.aa then([])else(bif a.variant==4 then(bif cQ ((ei (kept 125 a (bR a)) (Int.ofNat (kept 125 a (bR a)).length) a 0).getD default)then(bif decide (gl ((ei (kept 125 a (bR a)) (Int.ofNat (kept 125 a (bR a)).length) a 0).getD default)≥0)then(kept 127 a (kept 125 a (bR a)))else(kept 125 a (bR a)))else(kept 125 a (bR a)))else(kept 125 a (bR a))))else(bif a.variant==4 then(bif cQ ((ei (kept 125 a (bR a)) (Int.ofNat (kept 125 a (bR a)).length) a 0).getD default)then(bif decide (gl ((ei (kept 125 a (bR a)) (Int.ofNat (kept 125 a (bR a)).length) a 0).getD default)≥0)then(kept 127 a (kept 125 a (bR a)))else(kept 125 a (bR a)))else(kept 125 a (bR a)))else(kept 125 a (bR a))))
def Ct (a:Pos):Bool:=(mK (a.variant) (a.aa)&&(bif qA a.variant a.aa then(sC a (a.aa)&&(bif !oO a a.aa then true else(uU a&&(dK 125 a (bR a)&&(bif a.variant==4 then((ei (kept 125 a (bR a)) (Int.ofNat (kept 125 a (bR a)).length) a 0).isSome&&bif cQ ((ei (kept 125 a (bR a)) (Int.ofNat (kept 125 a (bR a)).length) a 0).getD default)then(bif decide (gl ((ei (kept 125 a (bR a)) (Int.ofNat (kept 125 a (bR a)).length) a 0).getD default)≥0)then(dK 127 a (kept 125 a (bR a))&&true)else true)else true)else true)))))else(uU a&&(dK 125 a (bR a)&&(bif a.variant==4 then((ei (kept 125 a (bR a)) (Int.ofNat (kept 125 a (bR a)).length) a 0).isSome&&bif cQ ((ei (kept 125 a (bR a)) (Int.ofNat (kept 125 a (bR a)).length) a 0).getD default)then(bif decide (gl ((ei (kept 125 a (bR a)) (Int.ofNat (kept 125 a (bR a)).length) a 0).getD default)≥0)then(dK 127 a (kept 125 a (bR a))&&true)else true)else true)else true)))))
theorem P64 (a:Pos)(h:Ct a=true):PS Pz 64 [Pos.av a] ((dL .mv).res (lI a)):=pq14 art h
def G64:GT:=g1 aZ (fun a=>b7 (Ct a) ((dL .mv).res (lI a)))
theorem s64:Sound Pz 64 G64:=aH fun a=>aA (P64 a)
def ai1:KT:=[(128,9,[(0,[0,1]),(1,[4])]),(187,40,[(0,[1,2,16]),(1,[1,2,3,16]),(2,[1,2,4,5,16]),(3,[1,2,4,5,13]),(4,[2]),(5,[1,2,4,19]),(6,[2]),(7,[1,2,22]),(8,[2]),(9,[1,2,26]),(10,[2]),(11,[1,2,6]),(12,[1,2,7]),(13,[2,37]),(14,[2]),(15,[2])]),(110,19,[(0,[0,1]),(1,[0,1,7,8]),(2,[0,1,7,8,9]),(3,[0,1,5,7,8]),(4,[0,1,5,7,8,16]),(5,[4]),(6,[0,1,7,8]),(7,[4])]),(233,8,[(0,[0,1]),(1,[3])]),(234,14,[(0,[1,2,10,11,12]),(1,[3])])]
def aaC:ar:=bO Pz ai1 [(64,G64),(145,j8),(229,C0)] [] []
theorem Tv:aP aaC:=ae af ⟨s64,kM,ED,trivial⟩ trivial trivial
def P1 (p1:M')(p2:Int)(p3:Pos)(p4:Int)(x:(Int)):St:=St.mk (.list .mv p1 .fresh::.func 234 [] [.ptr 2 0]::(an 5 (.int .i64 p2::.int .i64 x::(an 10 [])))) (Hp.mk [(pc p3 []),[.int .u8 0,.int .u8 0],[.int .i64 p4]] [] [] 0 0 0)
def Lo (p1:M')(p2:Int)(p3:Pos)(p4:Int):(Int) ⊕ (Int×Bool)→Out
 |(.inl (y))=>.ret (St.mk (an 4 (AV.int .i64 y::(an 14 []))) (Hp.mk [(pc p3 []),[AV.int .u8 0,AV.int .u8 0],[AV.int .i64 p4]] [] [] 0 0 0))
 |(.inr (y))=>.exit 0 (St.mk (AV.list ET.mv p1 Tk.fresh::AV.func 234 [] [AV.ptr 2 0]::(an 5 (AV.int .i64 p2::AV.int .i64 y.1::AV.bool y.2::(an 9 [])))) (Hp.mk [(pc p3 []),[AV.int .u8 0,AV.int .u8 0],[AV.int .i64 p4]] [] [] 0 0 0))
def GK (p1:M')(p2:Int)(p3:Pos)(p4:Int)(x:(Int)):aG (Int) ((Int) ⊕ (Int×Bool)):=(bif decide (x<p2)then(bif wr .i64 (p1.getD x.toNat default).aD==p4 then(bif decide ((p1.getD x.toNat default).to≥56)then(aG.out (.inl x))else(aG.go (wr .i64 (x+1))))else(aG.go (wr .i64 (x+1))))else(aG.out (.inr ((x,decide (x<p2))))))
def BX (p1:M')(p2:Int)(p3:Pos)(p4:Int)(x:(Int)):Bool:=(bif decide (x<p2)then(decide (0≤x)&&decide (x<Int.ofNat p1.length)&&true)else true)
def fu (p1:M')(p2:Int)(p3:Pos)(p4:Int)(x:(Int)):Option ((Int) ⊕ (Int×Bool)):=cW (fun x=>bif BX p1 p2 p3 p4 x then GK p1 p2 p3 p4 x else .bad) many x
abbrev OG {α:Type}(k:M'→Int→Pos→Int→(Int)→α)(s:St):α:=wP s 0 fun q0=>k (tL (ET.mv) (tT s 0)) (tI (tT s 7)) q0 (tI (tH s 2 0)) ((tI (tT s 8)))
theorem X2 (p1:M')(p2:Int)(p3:Pos)(p4:Int)(x:(Int))(r:(Int) ⊕ (Int×Bool))(h:fu p1 p2 p3 p4 x=some r):aC Pz (bc Pz 110 2) (P1 p1 p2 p3 p4 x) (Lo p1 p2 p3 p4 r):=aC.Be (m:=12) (fn:=110) Tv (OG fun _ _ _ _ x=>some x) (fun o=>match o with | .ret s=>some (.inl (tI (tT s 4))) | .exit 0 s=>some (.inr ((tI (tT s 8)),(tB (tT s 9))))|_=>none) (fun r=>by cases r<;>rfl) (fun _=>by kernel_rfl) (fun _=>by kernel_rfl) (fun _=>by kernel_rfl) (fun _=>by kernel_rfl) many x r h
def Qp (b:Code)(s:St):Tr Out:=OG (fun p1 p2 p3 p4 x=>Bg b (bc Pz 110 2) s (P1 p1 p2 p3 p4 x) (fu p1 p2 p3 p4 x) (Lo p1 p2 p3 p4)) s
theorem Sm:∀b,aT Pz b (Qp b):=fun _ _ _ h=>eZ (X2 _ _ _ _ _) h
def akX:ar:=bO Pz ai1 [(64,G64),(145,j8),(229,C0)] [(110,2,Qp)] []
theorem ag5:aP akX:=ae af ⟨s64,kM,ED,trivial⟩ ⟨Sm,trivial⟩ trivial
def zx (a:Pos):(Int×Int):=(bif decide (bg a 0 6≥56)then(bif decide (bg a 1 6≥56)then⟨(3),(6)⟩else(bif decide (bg a 1 6≥56)then⟨((dn 1 6).1),((dn 1 6).2)⟩else(bif !decide (bg a 0 6≥56)then⟨(0),(0)⟩else(bif a.aa==0 then⟨((dn 0 6).1),((dn 0 6).2)⟩else(bif cQ ((fu (lI a) (Int.ofNat (lI a).length) a (bg a 1 6) 0).getD default)then(bif decide (gl ((fu (lI a) (Int.ofNat (lI a).length) a (bg a 1 6) 0).getD default)≥0)then⟨(0),(0)⟩else⟨((dn 0 6).1),((dn 0 6).2)⟩)else⟨((dn 0 6).1),((dn 0 6).2)⟩)))))else(bif decide (bg a 1 6≥56)then⟨((dn 1 6).1),((dn 1 6).2)⟩else(bif !decide (bg a 0 6≥56)then⟨(0),(0)⟩else(bif a.aa==0 then⟨((dn 0 6).1),((dn 0 6).2)⟩else(bif cQ ((fu (lI a) (Int.ofNat (lI a).length) a (bg a 1 6) 0).getD default)then(bif decide (gl ((fu (lI a) (Int.ofNat (lI a).length) a (bg a 1 6) 0).getD default)≥0)then⟨(0),(0)⟩else⟨((dn 0 6).1),((dn 0 6).2)⟩)else⟨((dn 0 6).1),((dn 0 6).2)⟩)))))
def C6 (a:Pos):Bool:=(iz a 0 6&&(iz a 1 6&&(bif decide (bg a 0 6≥56)then(bif decide (bg a 1 6≥56)then true else(bif decide (bg a 1 6≥56)then true else(bif !decide (bg a 0 6≥56)then true else(bif a.aa==0 then true else(iz a 1 6&&(Ct a&&((fu (lI a) (Int.ofNat (lI a).length) a (bg a 1 6) 0).isSome&&bif cQ ((fu (lI a) (Int.ofNat (lI a).length) a (bg a 1 6) 0).getD default)then true else true)))))))else(bif decide (bg a 1 6≥56)then true else(bif !decide (bg a 0 6≥56)then true else(bif a.aa==0 then true else(iz a 1 6&&(Ct a&&((fu (lI a) (Int.ofNat (lI a).length) a (bg a 1 6) 0).isSome&&bif cQ ((fu (lI a) (Int.ofNat (lI a).length) a (bg a 1 6) 0).getD default)then true else true)))))))))
theorem arC (a:Pos)(h:C6 a=true):PS Pz 187 [Pos.av a] ((dR .u8 .u8).res (zx a)):=pq14 ag5 h
def ahV:GT:=g1 aZ (fun a=>b7 (C6 a) ((dR .u8 .u8).res (zx a)))
theorem ank:Sound Pz 187 ahV:=aH fun a=>aA (arC a)
def K63:KT:=[(63,25,[(0,[1,2,8,9,10]),(1,[1,2,11]),(2,[2]),(3,[1,2,3]),(4,[1,2,3,19]),(5,[2]),(6,[2])])]
def B63:ar:=bO Pz K63 [(119,adH),(182,aiv),(183,ahl),(184,agF),(185,aiL),(186,aeu),(187,ahV)] [] []
theorem apK:aP B63:=ae af ⟨aoe,aqO,asu,as8,asb,aoj,ank,trivial⟩ trivial trivial
def vK (a:Pos):(Int×Int):=(bif decide (a.variant≥9)then⟨(0),(0)⟩else(bif decide (a.aa>1)then⟨(0),(0)⟩else(bif a.variant==Int.ofNat 0 then⟨(0),(0)⟩else(bif a.variant==Int.ofNat 1 then⟨(0),(0)⟩else(bif a.variant==Int.ofNat 2 then⟨(0),(0)⟩else(bif a.variant==Int.ofNat 3 then⟨((Aw a).1),((Aw a).2)⟩else(bif a.variant==Int.ofNat 4 then⟨((zK a).1),((zK a).2)⟩else(bif a.variant==Int.ofNat 5 then⟨((As a).1),((As a).2)⟩else(bif a.variant==Int.ofNat 6 then⟨((AE a).1),((AE a).2)⟩else(bif a.variant==Int.ofNat 7 then⟨((A7 a).1),((A7 a).2)⟩else⟨((zx a).1),((zx a).2)⟩))))))))))
def Br (a:Pos):Bool:=(bif decide (a.variant≥9)then true else(bif decide (a.aa>1)then true else(decide (0≤a.variant)&&decide (a.variant<Int.ofNat 9)&&(bif a.variant==Int.ofNat 0 then true else(bif a.variant==Int.ofNat 1 then true else(bif a.variant==Int.ofNat 2 then true else(bif a.variant==Int.ofNat 3 then(F6 a&&true)else(bif a.variant==Int.ofNat 4 then(Dy a&&true)else(bif a.variant==Int.ofNat 5 then(BY a&&true)else(bif a.variant==Int.ofNat 6 then(Bz a&&true)else(bif a.variant==Int.ofNat 7 then(Gs a&&true)else(a.variant==Int.ofNat 8&&(C6 a&&true)))))))))))))
theorem P63 (a:Pos)(h:Br a=true):PS Pz 63 [Pos.av a] ((dR .u8 .u8).res (vK a)):=pq14 apK h
def G63:GT:=g1 aZ (fun a=>b7 (Br a) ((dR .u8 .u8).res (vK a)))
theorem s63:Sound Pz 63 G63:=aH fun a=>aA (P63 a)
def K30:KT:=[(30,9,[(0,[1]),(1,[1,6]),(2,[2]),(3,[2])])]
def B30:ar:=bO Pz K30 [(63,G63),(64,G64)] [] []
theorem amc:aP B30:=ae af ⟨s63,s64,trivial⟩ trivial trivial
def di (a:Pos):M':=(bif(vK a).1 != 0 then([])else(lI a))
def KV (a:Pos):Bool:=(Br a&&(bif(vK a).1 != 0 then true else(Ct a&&true)))
theorem P30 (a:Pos)(h:KV a=true):PS Pz 30 [Pos.av a] ((dL .mv).res (di a)):=pq14 amc h
def G30:GT:=g1 aZ (fun a=>b7 (KV a) ((dL .mv).res (di a)))
theorem s30:Sound Pz 30 G30:=aH fun a=>aA (P30 a)
end Kz
namespace Kz
open Go
theorem yL (a b:Mv):(a.aD==b.aD&&(a.to==b.to&&(a.bU==b.bU&&(a.bh==b.bh&&(a.bZ==b.bZ&&true)))))=decide (a=b):=by rw[Bool.eq_iff_iff];cases a;cases b;simp
theorem Vk (l:M')(b:Mv)(hl:l.length≤1000000):∃r,gn l (l.length:Int) b 0=some r ∧
  match r with
  | .inl i=>0≤i∧i<l.length∧b∈l
  | .inr _=>b∉l:=by
 refine aQ (I:=fun x=>0≤x∧x≤(l.length:Int)∧b∉l.take x.toNat) (μ:=fun x=>((l.length:Int)-x).toNat) ?_ _ (by simp_all) (by simp;omega);rintro n ⟨h0,h1,h2⟩;by_cases hc:n<l.length
 ·have hlt:n.toNat<l.length:=by omega
  refine⟨aq (fun _=>ak (by simp[h0];exact hc) fun _=>rfl) fun _=>rfl,al (fun _=>?_) fun h=>absurd h (by simpa using hc)⟩;have he:cg BinOp.eql (b.aD==(l.getD n.toNat default).aD&&(b.to==(l.getD n.toNat default).to&&(b.bU==(l.getD n.toNat default).bU&&(b.bh==(l.getD n.toNat default).bh&&(b.bZ==(l.getD n.toNat default).bZ&&true)))))=decide (b=l.getD n.toNat default):=yL b _;rw[he];refine al (fun h=>?_) fun h=>?_
  ·have h:b=l.getD n.toNat default:=by simpa using h
   exact⟨h0,hc,by rw[h];exact eD hlt⟩
  ·have h:¬b=l.getD n.toNat default:=by simpa using h
   have hw:wr .i64 (n+1)=n+1:=aF (by omega) (by omega);rw[hw];refine⟨⟨by omega,by omega,?_⟩,by dsimp only;omega⟩;rw[show(n+1).toNat=n.toNat+1 by omega,List.take_succ_eq_append_getElem hlt];grind
 ·refine⟨aq (fun h=>absurd h (by simpa using hc)) fun _=>rfl,al (fun h=>absurd h (by simpa using hc)) fun _=>?_⟩;show b∉l;rw[List.take_of_length_le (by omega)]at h2;exact h2
theorem t129 {l:M'}{b:Mv}(hl:l.length≤1000000):Hf l b=true:=by refine ak (aJ (Vk l b hl)).1 fun _=>?_;simp_all
theorem t65 {l:M'}{b:Mv}(hl:l.length≤1000000):De l b=true:=ak (t129 hl) fun _=>rfl
theorem mI {l:M'}{b:Mv}(hl:l.length≤1000000):Kg l b=decide (b∈l):=by
 have h:=(aJ (Vk l b hl)).2;unfold Kg Vh;revert h;show(match (gn l (l.length:Int) b 0).getD default with | .inl i=>0≤i∧i<(l.length:Int)∧b∈l | .inr _=>b∉l)→decide ((bif cQ ((gn l (l.length:Int) b 0).getD default)then gl ((gn l (l.length:Int) b 0).getD default)else -1)≥0)=decide (b∈l);generalize (gn l (l.length:Int) b 0).getD default=r;intro h;cases r with
 |inl i =>have h':0≤i∧i<(l.length:Int)∧b∈l:=h;have h3:=h'.2.2;simp[cQ,gl,h'.1,h3]
 |inr y =>have h':b∉l:=h;simp[cQ,h']
theorem t67 {p:Pos}(hv:0≤p.variant)(m:Mv):Ji p m=true:=by
 have hl:=ie hv;unfold Ji;refine ak (t134 p) fun _=>aq (fun _=>rfl) fun _=>ak (t131 hv) fun _=>ak (t65 (by omega)) fun _=>aq (fun _=>rfl) fun h=>aq (fun _=>rfl) fun _=>ak ?_ fun _=>rfl;rw[mI (by omega)]at h;have hm:m∈dZ p:=by simpa using h
 obtain⟨_,f,t,h1,h2,h3,_⟩:=gv hv hm;rw[h3];simp;omega
theorem t47 {p:Pos}(hv:0≤p.variant)(m:Mv):xh p m=true:=ak (t67 hv m) fun _=>rfl
theorem t192 {a:Int}(ha:0≤a):CQ a=true:=by unfold CQ;grind
theorem t115 {a:Int}(ha:0≤a):DC a=true:=by unfold DC;grind
theorem oZ {t:Int}(h0:0≤t)(h1:t≤1):cy t=56*t:=by unfold cy;rw[aF (n:=t) (by omega) (by omega),aF (by omega) (by omega)]
theorem YK (p1:Pos)(p2:List Int)(p3:Pos)(p4 p5:BitVec 64)(p6 p7 x:Int)(hx : -200≤x)(hx2:x≤201)(h6:p6≤200)(h7:p7≤200):(eR p1 p2 p3 p4 p5 p6 p7 x).isSome=true:=by
 refine(aJ (Q:=fun _=>True) (aQ (I:=fun x => -200≤x∧x≤201) (μ:=fun x=>(201-x).toNat) ?_ x ⟨hx,hx2⟩ (by omega))).1;rintro n ⟨h0,h1⟩;refine⟨rfl,al (fun hc=>al (fun _=>trivial) fun _=>?_) fun hc=>trivial⟩;have hc:n≤if p7>p6 then p7 else p6:=by simpa using hc
 have hn:n≤200:=by split at hc<;>omega
 rw[aF (n:=n+1) (by omega) (by omega)];exact⟨⟨by omega,by omega⟩,by dsimp only;omega⟩
theorem X3 (p1:Pos)(p2:List Int)(p3:Pos)(p4 p5:BitVec 64)(p6 p7 p8 p9 x:Int)(hx : -200≤x)(hx2:x≤201)(h6:p8≤200)(h7:p9≤200):(eQ p1 p2 p3 p4 p5 p6 p7 p8 p9 x).isSome=true:=by
 refine(aJ (Q:=fun _=>True) (aQ (I:=fun x => -200≤x∧x≤201) (μ:=fun x=>(201-x).toNat) ?_ x ⟨hx,hx2⟩ (by omega))).1;rintro n ⟨h0,h1⟩;refine⟨rfl,al (fun hc=>al (fun _=>trivial) fun _=>?_) fun hc=>trivial⟩;have hc:n≤if p9>p8 then p9 else p8:=by simpa using hc
 have hn:n≤200:=by split at hc<;>omega
 rw[aF (n:=n+1) (by omega) (by omega)];exact⟨⟨by omega,by omega⟩,by dsimp only;omega⟩
theorem X7 (p1:Pos)(p2:List Int)(p3:Pos)(p4 p5:BitVec 64)(p6 p7 p8 p9 p10 p11 x:Int)(hx : -200≤x)(hx2:x≤201)(h6:p10≤200)(h7:p11≤200):(eS p1 p2 p3 p4 p5 p6 p7 p8 p9 p10 p11 x).isSome=true:=by
 refine(aJ (Q:=fun _=>True) (aQ (I:=fun x => -200≤x∧x≤201) (μ:=fun x=>(201-x).toNat) ?_ x ⟨hx,hx2⟩ (by omega))).1;rintro n ⟨h0,h1⟩;refine⟨?_,al (fun hc=>?_) fun hc=>trivial⟩
 ·unfold qs;repeat' (first|with_reducible rfl|with_reducible exact t199 _|with_reducible exact t205 _ _ _|refine ak ?_ (fun _=>?_)|refine aq (fun _=>?_) (fun _=>?_))
 ·have hc:n≤if p11>p10 then p11 else p10:=by simpa using hc
  have hn:n≤200:=by split at hc<;>omega
  rw[aF (n:=n+1) (by omega) (by omega)];have go:xd (fun x:Int => -200≤x∧x≤201) (fun _:Int ⊕ (Int×Bool)=>True) (fun x=>(201-x).toNat) (201-n).toNat (.go (n+1)):=⟨⟨by omega,by omega⟩,by dsimp only;omega⟩;exact al (fun _=>al (fun _=>go) fun _=>al (fun _=>trivial) fun _=>go) fun _=>al (fun _=>trivial) fun _=>go
theorem dm {l:List Int}{a b d:Int}(h:∀x∈l,a≤x∧x≤b)(hd:a≤d∧d≤b)(i:Nat):a≤l.getD i d∧l.getD i d≤b:=by
 by_cases hi:i<l.length
 ·exact h _ (eD hi)
 simp_all
noncomputable section
variable {p:Pos}(hp:ax p)(ht:p.aa≤1)
include hp ht
theorem GB {b c:Int}:0≤(cD p b c).1∧(cD p b c).1<64:=by
 have hr:=dm hp.r0 (d:=0) (by omega) (scale 2 p.aa+scale 1 c).toNat;have h0:=hp.t0;unfold cD;rw[oZ h0 ht];generalize p.ao.getD (scale 2 p.aa+scale 1 c).toNat 0=r at hr;rw[aF (n:=r) (by omega) (by omega)];refine al (P:=fun x:Int×Bool=>0≤x.1∧x.1<64) (fun _=>by simp) fun h1=>al (P:=fun x:Int×Bool=>0≤x.1∧x.1<64) (fun _=>by simp) fun h2=>?_;have h1:0≤r:=by simpa using h1
 have h2:r≤7:=by simpa using h2
 rw[aF (n:=56*p.aa+r) (by omega) (by omega)];grind
theorem t238 {b c:Int}(hc:c=0∨c=1):Bx p b c=true:=by
 have hr:=dm hp.r0 (d:=0) (by omega) (scale 2 p.aa+scale 1 c).toNat;have h0:=hp.t0;unfold Bx;rw[oZ h0 ht];generalize p.ao.getD (scale 2 p.aa+scale 1 c).toNat 0=r at hr;rw[aF (n:=r) (by omega) (by omega)];refine ak (by simp;omega) fun _=>ak (by simp;omega) fun _=>aq (fun _=>rfl) fun h1=>aq (fun _=>rfl) fun h2=>ak ?_ fun _=>rfl;have h1:0≤r:=by simpa using h1
 have h2:r≤7:=by simpa using h2
 rw[aF (n:=56*p.aa+r) (by omega) (by omega)];simp;omega
theorem t191 {b c:Int}(hb0:0≤b)(hb1:b<64)(hc:c=0∨c=1):pZ p b c=true:=by
 have h0:=hp.t0;have hr:=GB hp ht (b:=b) (c:=c);have g0:0≤(List.take 2 (List.drop (c.toNat*2) (li [6,5,2,3]))).getD 0 0∧(List.take 2 (List.drop (c.toNat*2) (li [6,5,2,3]))).getD 0 0≤6:=by rcases hc with rfl|rfl<;>decide
 have g1:0≤(List.take 2 (List.drop (c.toNat*2) (li [6,5,2,3]))).getD 1 0∧(List.take 2 (List.drop (c.toNat*2) (li [6,5,2,3]))).getD 1 0≤6:=by rcases hc with rfl|rfl<;>decide
 unfold pZ;rw[oZ h0 ht];generalize (List.take 2 (List.drop (c.toNat*2) (li [6,5,2,3]))).getD 0 0=x0 at g0;generalize (List.take 2 (List.drop (c.toNat*2) (li [6,5,2,3]))).getD 1 0=x1 at g1;have w0:wr .i64 (56*p.aa+x0)=56*p.aa+x0:=aF (by omega) (by omega);have w1:wr .i64 (56*p.aa+x1)=56*p.aa+x1:=aF (by omega) (by omega);rw[w0,w1]
 refine ak (t238 hp ht hc) fun _=>aq (fun _=>rfl) fun _=>ak (by grind) fun _=>ak (by simp;omega) fun _=>ak (by simp;omega) fun _=>ak (t193 _) fun _=>ak (t147 _ _ _) fun _ =>
  ak (YK _ _ _ _ _ _ _ _ ?_ ?_ ?_ ?_) fun _=>aq (fun _=>rfl) fun _=>ak (X3 _ _ _ _ _ _ _ _ _ _ ?_ ?_ ?_ ?_) fun _=>aq (fun _=>rfl) fun _=>ak (X7 _ _ _ _ _ _ _ _ _ _ _ _ ?_ ?_ ?_ ?_) (by simp_all)
 all_goals (try split)<;>omega
omit ht in
theorem t132:CG p=true:=by
 unfold CG;refine aq (fun _=>rfl) fun h=>?_;have ht:p.aa≤1:=by simpa using h
 have hk:=fJ p p.aa 6;refine ak (t115 hp.v0) fun _=>aq (fun _=>rfl) fun _=>ak (t145 _ _ _) fun _=>aq (fun _=>rfl) fun hk0=>aq (fun _=>rfl) fun _=>?_;have hk0:0≤bg p p.aa 6:=by simpa using hk0
 have a1:pZ p (bg p p.aa 6) 1=true:=t191 hp ht hk0 hk.2 (.inr rfl);have a0:pZ p (bg p p.aa 6) 0=true:=t191 hp ht hk0 hk.2 (.inl rfl);simp_all
end
noncomputable section
variable {p:Pos}(hp:ax p)
include hp
theorem vA (ht:p.aa≤1){b c:Int}(hb0:0≤b)(hb1:b<64):(dF p b c).2=true→(dF p b c).1.aD=b∧0≤(dF p b c).1.to∧(dF p b c).1.to<64∧(dF p b c).1.bZ=true∧(dF p b c).1.bh=0∧(dF p b c).1.bU=0∧(dF p b c).1.to=(cD p b c).1∧(cD p b c).2=true:=by have hr:=GB hp ht (b:=b) (c:=c);have wb:wr .i8 b=b:=Kj (by omega) (by omega);have wr':wr .i8 (cD p b c).1=(cD p b c).1:=Kj (by omega) (by omega);have ci:=fun {d:Bool} {x y:Mv×Bool} => @al (Mv×Bool) (fun x=>x.2=true→x.1.aD=b∧0≤x.1.to∧x.1.to<64∧x.1.bZ=true∧x.1.bh=0∧x.1.bU=0∧x.1.to=(cD p b c).1∧(cD p b c).2=true) d x y;show(fun x:Mv×Bool=>x.2=true→x.1.aD=b∧0≤x.1.to∧x.1.to<64∧x.1.bZ=true∧x.1.bh=0∧x.1.bU=0∧x.1.to=(cD p b c).1∧(cD p b c).2=true) (dF p b c);unfold dF;rw[wb,wr'];refine ci (fun _ h=>by cases h) fun h1=>ci (fun _ h=>by cases h) fun _=>ci (fun _ h=>by cases h) fun _=>ci (fun _ h=>by cases h) fun _ _=>?_;grind
theorem uo:(eW p).length≤2:=by unfold eW;grind
theorem uQ {m:Mv}(h:m∈eW p):p.aa≤1∧0≤m.aD∧m.aD<64∧0≤m.to∧m.to<64∧m.bZ=true∧m.bh=0∧m.bU=0:=by
 revert h;unfold eW;have hk:=fJ p p.aa 6;refine al (P:=fun l:M'=>m∈l→_) (fun _ h=>by cases h) fun h=>?_;have ht:p.aa≤1:=by simpa using h
 refine al (P:=fun l:M'=>m∈l→_) (fun _ h=>by cases h) fun _=>al (P:=fun l:M'=>m∈l→_) (fun _ h=>by cases h) fun hk0=>al (P:=fun l:M'=>m∈l→_) (fun _ h=>by cases h) fun _=>?_;have hk0:0≤bg p p.aa 6:=by simpa using hk0
 have key:∀c,(dF p (bg p p.aa 6) c).2=true→m=(dF p (bg p p.aa 6) c).1→p.aa≤1∧0≤m.aD∧m.aD<64∧0≤m.to∧m.to<64∧m.bZ=true∧m.bh=0∧m.bU=0:=by intro c h1 h2;obtain⟨a1,a2,a3,a4,a5,a6,_⟩:=vA hp ht hk0 hk.2 h1;rw[h2];exact(by simp_all)
 grind
end
theorem Pp (k p2:Int)(l:List Int)(p5:Pos)(p6:Nat)(out:M')(hl:l.length≤64)(hin:∀s∈l,0≤s∧s<64)(ho:out.length≤1000000) :
  ∃r,kV k p2 l (Int.ofNat l.length) p5 p6 (out,0)=some r∧r.1=out++l.flatMap fun s=>[⟨s,s,0,k,false⟩]:=by
 refine aQ (I:=fun x=>0≤x.2∧x.2≤(l.length:Int)∧x.1=out++(l.take x.2.toNat).flatMap (fun s=>[⟨s,s,0,k,false⟩])) (μ:=fun x=>((l.length:Int)-x.2).toNat) ?_ _ (by simp_all) (by simp;omega);rintro⟨o,n⟩ ⟨h0,h1,h2⟩;simp only at h0 h1 h2;have hlen:o.length≤out.length+64:=by
  have:=iI (l.take n.toNat) (fun s=>[(⟨s,s,0,k,false⟩:Mv)]) 1 fun _ _=>by simp
  have h5:(l.take n.toNat).length≤64:=by rw[List.length_take];omega
  rw[h2,List.length_append];omega
 by_cases hc:n<l.length
 ·have hf:=hin _ (eD (d:=default) (show n.toNat<l.length by omega));refine⟨aq (fun _=>ak (by simp[h0];omega) fun _=>ak (by simp;omega) fun _=>rfl) fun _=>rfl,al (fun _=>?_) fun h=>absurd h (by simpa using hc)⟩;have hw:wr .i64 (n+1)=n+1:=aF (by omega) (by omega);rw[hw,Kj (n:=l.getD n.toNat default) (by omega) (by omega)];refine⟨⟨by simp;omega,by simp;omega,?_⟩,by simp;omega⟩;simp only;rw[show(n+1).toNat=n.toNat+1 by omega,j9 default _ (by omega),h2,List.append_assoc]
 ·refine⟨aq (fun h=>absurd h (by simpa using hc)) fun _=>rfl,al (fun h=>absurd h (by simpa using hc)) fun _=>?_⟩;show o=_;rw[h2,List.take_of_length_le (by omega)]
def fy (p:Pos)(k:Int):M' :=
 bif p.ah.getD (scale 6 p.aa+scale 1 k).toNat 0==0 then[]else bif k==1 then(gF (~~~bm p&&&72057594037927680#64) 64).flatMap fun s=>[⟨s,s,0,k,false⟩]else(gF (~~~bm p) 64).flatMap fun s=>[⟨s,s,0,k,false⟩]
theorem yr (p:Pos)(k:Int):(fy p k).length≤64:=by
 unfold fy;refine al (P:=fun l:M'=>l.length≤64) (fun _=>by simp) fun _=>al (P:=fun l:M'=>l.length≤64) (fun _=>?_) fun _=>?_
 ·have:=dC (~~~bm p&&&72057594037927680#64) 64;have h2:=iI (gF (~~~bm p&&&72057594037927680#64) 64) (fun s=>[(⟨s,s,0,k,false⟩:Mv)]) 1 fun _ _=>by simp
  omega
 ·have:=dC (~~~bm p) 64;have h2:=iI (gF (~~~bm p) 64) (fun s=>[(⟨s,s,0,k,false⟩:Mv)]) 1 fun _ _=>by simp
  omega
theorem Qv {p:Pos}(h0:0≤p.aa)(h1:p.aa≤1):∃r,o8 p 0 ([],0)=some r∧r.1=[1,2,3,4,5].flatMap (fy p):=by
 refine aQ (I:=fun x=>0≤x.2∧x.2≤5∧x.1=(([1,2,3,4,5]:List Int).take x.2.toNat).flatMap (fy p)∧(x.1.length:Int)≤64*x.2) (μ:=fun x=>(5-x.2).toNat) ?_ _ (by simp_all) (by simp);rintro⟨o,n⟩ ⟨g0,g1,g2,g3⟩;simp only at g0 g1 g2 g3;by_cases hc:n<5
 ·have hw:wr .i64 (n+1)=n+1:=aF (by omega) (by omega);have hw8:wr .u8 (n+1)=n+1:=kD (by omega) (by omega);have s1:=dC (~~~bm p&&&72057594037927680#64) 64;have s2:=dC (~~~bm p) 64;have d1:=aJ (Pp (n+1) n (gF (~~~bm p&&&72057594037927680#64) 64) p 0 o s1 (fun _ h=>jL h) (by omega));have d2:=aJ (Pp (n+1) n (gF (~~~bm p) 64) p 0 o s2 (fun _ h=>jL h) (by omega));have e:([1,2,3,4,5]:List Int).getD n.toNat 0=n+1:=by
   have:n=0∨n=1∨n=2∨n=3∨n=4:=by omega
   rcases this with rfl|rfl|rfl|rfl|rfl<;>rfl
  have hs:xd (fun x:M'×Int=>0≤x.2∧x.2≤5∧x.1=(([1,2,3,4,5]:List Int).take x.2.toNat).flatMap (fy p)∧x.1.length≤64*x.2) (fun r:M'×Int×Bool=>r.1=[1,2,3,4,5].flatMap (fy p)) (fun x=>(5-x.2).toNat) (5-n).toNat (.go (o++fy p (n+1),n+1)):=by
   have hq:=yr p (n+1);refine⟨⟨by simp;omega,by simp;omega,?_,?_⟩,by simp;omega⟩
   ·simp only;rw[show(n+1).toNat=n.toNat+1 by omega,j9 0 _ (by simp;omega),g2,e]
   ·grind
  refine⟨aq (fun _=>?_) fun _=>rfl,al (fun _=>?_) (by simp_all)⟩
  ·rw[hw,hw8,dw,dw];refine ak (by simp;omega) fun _=>ak (by simp;omega) fun _=>aq (fun _=>rfl) fun _=>ak (t193 _) fun _=>aq (fun _=>ak (t142 _) (by simp_all)) fun _=>ak (t142 _) (by simp_all)
  ·rw[hw,hw8,dw,dw];refine al (fun h=>?_) fun h=>al (fun h'=>?_) fun h'=>?_
   ·have e:fy p (n+1)=[]:=by unfold fy;rw[h];rfl
    simp_all
   ·have e:fy p (n+1)=(gF (~~~bm p&&&72057594037927680#64) 64).flatMap fun s=>[⟨s,s,0,n+1,false⟩]:=by unfold fy;rw[h,h'];rfl
    simp_all
   ·have e:fy p (n+1)=(gF (~~~bm p) 64).flatMap fun s=>[⟨s,s,0,n+1,false⟩]:=by unfold fy;rw[h,h'];rfl
    simp_all
 ·refine⟨aq (fun h=>absurd h (by simpa using hc)) fun _=>rfl,al (fun h=>absurd h (by simpa using hc)) fun _=>?_⟩;have:n=5:=by omega
  subst this;exact g2
theorem t133 {p:Pos}(hv:0≤p.variant)(h0:0≤p.aa):Bv p=true:=by unfold Bv;refine aq (fun _=>rfl) fun h=>ak (t192 hv) fun _=>aq (fun _=>rfl) fun _=>ak ?_ fun _=>rfl;exact(aJ (Qv h0 (by simpa using h))).1
theorem tG {p:Pos}(h0:0≤p.aa):nS p=bif decide (p.aa>1)then[]else bif !sV p.variant then[]else[1,2,3,4,5].flatMap (fy p):=by
 unfold nS;by_cases h:p.aa≤1
 ·rw[(aJ (Qv h0 h)).2]
 simp_all
theorem vP {p:Pos}(h0:0≤p.aa):(nS p).length≤320:=by rw[tG h0];refine al (P:=fun l:M'=>l.length≤320) (fun _=>by simp) fun _=>al (P:=fun l:M'=>l.length≤320) (fun _=>by simp) fun _=>?_;have:=iI [1,2,3,4,5] (fy p) 64 fun k _=>yr p k;simpa using this
theorem lV {p:Pos}(h0:0≤p.aa){m:Mv}(h:m∈nS p):p.aa≤1∧sV p.variant=true∧m.aD=m.to∧0≤m.to∧m.to<64∧m.bZ=false∧1≤m.bh∧m.bh≤5∧m.bU=0:=by
 rw[tG h0]at h;revert h;refine al (P:=fun l:M'=>m∈l→_) (fun _ h=>by cases h) fun h1=>al (P:=fun l:M'=>m∈l→_) (fun _ h=>by cases h) fun h2 h=>?_;obtain⟨k,hk,hm⟩:=List.mem_flatMap.1 h;have hk':1≤k∧k≤5:=by simp at hk;omega
 have key:∀b:BitVec 64,m∈(gF b 64).flatMap (fun s=>[(⟨s,s,0,k,false⟩:Mv)])→m.aD=m.to∧0≤m.to∧m.to<64∧m.bZ=false∧1≤m.bh∧m.bh≤5∧m.bU=0:=by intro b hb;obtain⟨s,hs,hm⟩:=List.mem_flatMap.1 hb;have:=jL hs;rw[List.mem_singleton.1 hm];exact(by simp_all)
 refine⟨by simpa using h1,by simpa using h2,?_⟩;revert hm;unfold fy;grind
theorem oD (p:Pos):bR p=dZ p++eW p++nS p:=by unfold bR;rw[List.nil_append]
theorem kE {p:Pos}(hp:ax p):(bR p).length≤20802:=by have a:=ie hp.v0;have b:=uo hp;have c:=vP hp.t0;rw[oD,List.length_append,List.length_append];omega
theorem t66 {p:Pos}(hp:ax p):uU p=true:=by have a:=ie hp.v0;have b:=uo hp;have c:=vP hp.t0;unfold uU;rw[aF (n:=0+Int.ofNat (dZ p).length) (by simp_all) (by grind)];rw[aF (n:=0+Int.ofNat (dZ p).length+Int.ofNat (eW p).length) (by grind) (by grind)];rw[aF (n:=0+Int.ofNat (dZ p).length+Int.ofNat (eW p).length+Int.ofNat (nS p).length) (by grind) (by grind)];refine ak (t131 hp.v0) fun _=>ak (t132 hp) fun _=>ak (t133 hp.v0 hp.t0) fun _=>?_;simp;omega
theorem UG:∀f t:Fin 64,(fc 0 f.val).getLsbD t.val=true→8≤t.val:=by decide +kernel
theorem Tf:∀f t:Fin 64,(fc 1 f.val).getLsbD t.val=true→t.val<56:=by decide +kernel
theorem ng {x:Nat}{i:Nat}(hi:i<64):(1#64 <<< x).getLsbD i=decide (i=x):=by grind
theorem fw {n:Int}(h0:0≤n)(h1:n<18446744073709551616):(BitVec.ofInt 64 n).toNat=n.toNat:=by grind
theorem Mr {c k v:Int}(h:dv c k v=true):k=0∨dh v=k:=by unfold dv at h;simp_all
theorem Jl {p:Pos}(hp:ax p)(ht:p.aa≤1){x:Pos×BitVec 64×BitVec 64}(hx:x.1=p){f t:Nat}(hf:f<64)(h1:t<64)(hm:(f:Int).tmod 8≠(t:Int).tmod 8)(hb:(BA x f).getLsbD t=true):(fc p.aa f).getLsbD t=true:=by
 have h0:=hp.t0;have hne:f%8≠t%8:=by intro e;apply hm;rw[Int.tmod_eq_emod_of_nonneg (by omega),Int.tmod_eq_emod_of_nonneg (by omega)];omega
 have a1:∀n:Int,(n=f+8∨n=f-8∨n=f+16∨n=f-16)→(1#64 <<< (BitVec.ofInt 64 n).toNat).getLsbD t=false:=by intro n hn;rw[ng h1];simp only[decide_eq_false_iff_not];rw[BitVec.toNat_ofInt];omega
 have w:∀s:Int,-100≤s→s≤100→(dA p.aa s=s+8∨dA p.aa s=s-8):=by intro s g0 g1;unfold dA;rw[aF (n:=s-8) (by omega) (by omega),aF (n:=s+8) (by omega) (by omega)];exact(by grind)
 have b1:=w f (by omega) (by omega);have b2:=w (dA p.aa f) (by omega) (by omega);have c1:=a1 (dA p.aa f) (by omega);have c2:(1#64 <<< (BitVec.ofInt 64 (dA p.aa (dA p.aa f))).toNat).getLsbD t=false:=by
  by_cases e:dA p.aa (dA p.aa f)=f
  ·rw[e,ng h1];simp only[decide_eq_false_iff_not];rw[BitVec.toNat_ofInt];omega
  ·exact a1 _ (by omega)
 revert hb;unfold BA;grind
theorem DR {p:Pos}(hp:ax p)(m:Mv) : -1≤bC p m∧bC p m<64:=by
 have hl:=ie hp.v0;unfold bC;refine al (P:=fun x:Int => -1≤x∧x<64) (fun _=>by simp) fun hthere=>al (P:=fun x:Int => -1≤x∧x<64) (fun _=>by simp) fun h=>?_;rw[mI (by omega)]at h;have hm:m∈dZ p:=by simpa using h
 obtain⟨th,f,t,h1,h2,h3,h4,h5,h6,h7,h8,h9,h10⟩:=gv hp.v0 hm;rw[h3,h4];rw[aF (n:=(t:Int)) (by omega) (by omega)];refine al (P:=fun x:Int => -1≤x∧x<64) (fun _=>by omega) fun _=>al (P:=fun x:Int => -1≤x∧x<64) (fun hk=>al (P:=fun x:Int => -1≤x∧x<64) (fun hd=>?_) fun _=>by simp) fun _=>by simp
 have hd:(f:Int).tmod 8≠(t:Int).tmod 8:=by simpa using hd
 have hto:(BA (p,own p,oz p) f).getLsbD t=true:=by unfold iH at h10;rw[hk,cond_true,BitVec.getLsbD_and]at h10;exact(by simp_all)
 have hat:=Jl hp th.1 rfl h1 h2 hd hto;have h0:=hp.t0;have ht:=th.1;have:p.aa=0∨p.aa=1:=by omega
 rcases this with e|e
 ·rw[e]at hat;have:=UG ⟨f,h1⟩ ⟨t,h2⟩ hat;simp only at this;rw[e];unfold dA;rw[show wr .u8 (1-0)=1 from by decide,aF (n:=(t:Int)-8) (by omega) (by omega)];grind
 ·rw[e]at hat;have:=Tf ⟨f,h1⟩ ⟨t,h2⟩ hat;simp only at this;rw[e];unfold dA;rw[show wr .u8 (1-1)=0 from by decide,aF (n:=(t:Int)+8) (by omega) (by omega)];grind
theorem Gx (p:Pos)(m:Mv) : -1≤gZ p m∧gZ p m≤1:=by unfold gZ;grind
theorem t137 (p:Pos)(m:Mv):xW p m=true:=by
 unfold xW;refine aq (fun _=>rfl) fun h=>ak ?_ fun _=>rfl;have h1:=Gx p m;have h:¬gZ p m<0:=by simpa using h
 show(decide (0≤gZ p m)&&decide (gZ p m<2))=true;simp;omega
theorem FX {p:Pos}(h0:0≤p.aa)(ht:p.aa≤1)(m:Mv):0≤(gL p m).1∧(gL p m).1<64∧0≤(gL p m).2.1∧(gL p m).2.1<64:=by
 have h1:=Gx p m;unfold gL;refine al (P:=fun x:Int×Int×Bool=>0≤x.1∧x.1<64∧0≤x.2.1∧x.2.1<64) (fun _=>by simp) fun h=>?_;have h:¬gZ p m<0:=by simpa using h
 rw[oZ h0 ht];show 0≤wr .i64 (56*p.aa+_)∧_;have e:gZ p m=0∨gZ p m=1:=by omega
 have e':gZ ⟨p.variant,p.ab,p.ai,p.ah,p.aa,p.ao,p.az,p.au,p.half,p.full⟩ ⟨m.aD,m.to,m.bU,m.bh,m.bZ⟩=gZ p m:=rfl;rw[e'];have e2:p.aa=0∨p.aa=1:=by omega
 rcases e with e|e<;>rcases e2 with e2|e2<;>rw[e,e2]<;>decide
theorem t138 {p:Pos}{b c:Int}(hb:0≤b)(hc:0≤c):C3 p b c=true:=by
 unfold C3;refine aq (fun _=>rfl) fun h=>?_;have h:sK b c=true:=by simpa using h
 have hin:b≤1∧1≤c∧c≤5:=by
  revert h;unfold sK;refine al (P:=fun x:Bool=>x=true→_) (fun h1=>al (P:=fun x:Bool=>x=true→_) (fun h2 h3=>?_) fun _ h=>by cases h) fun _ h=>by cases h
  simp only[decide_eq_true_eq]at h1 h2 h3;omega
 grind
theorem t141 {p:Pos}{b c:Int}(hb:0≤b)(hc:0≤c):vd p b c=true:=by
 unfold vd;refine aq (fun h=>?_) fun _=>rfl;have hin:b≤1∧1≤c∧c≤5:=by
  revert h;unfold sK;refine al (P:=fun x:Bool=>x=true→_) (fun h1=>al (P:=fun x:Bool=>x=true→_) (fun h2 h3=>?_) fun _ h=>by cases h) fun _ h=>by cases h
  simp only[decide_eq_true_eq]at h1 h2 h3;omega
 grind
theorem t143 (p:Pos)(s:Int):Dl p s=true:=by unfold Dl;repeat' (first|with_reducible rfl|with_reducible exact t199 _|with_reducible exact t193 _|with_reducible exact t147 _ _ _|refine ak ?_ (fun _=>?_)|refine aq (fun _=>?_) (fun _=>?_))
theorem Ty {v:Int}(h:0≤v):0≤dh v:=by unfold dh;grind
theorem Tw {i:Int}(h0:0≤i)(h1:i<64):(decide (0≤i)&&decide (i<Int.ofNat 64))=true:=by simp_all
theorem zM {l:List Int}{a b v:Int}(h:∀x∈l,a≤x∧x≤b)(hv:a≤v∧v≤b)(i:Nat):∀x∈l.set i v,a≤x∧x≤b:=by grind
theorem y5 (a b:Int):0≤lH a b∧lH a b≤255:=by unfold lH;exact al (P:=fun x:Int=>0≤x∧x≤255) (fun _=>by decide) fun _=>al (P:=fun x:Int=>0≤x∧x≤255) (fun _=>by decide) fun _=>al (P:=fun x:Int=>0≤x∧x≤255) (fun _=>by decide) fun _=>⟨ky _,mX _⟩
theorem zY {n:Int}(h : -9223372036854775808≤n∧n≤9223372036854775807) : -9223372036854775808≤lQ n∧lQ n≤9223372036854775807:=by unfold lQ;exact al (P:=fun x:Int => -9223372036854775808≤x∧x≤9223372036854775807) (fun _=>h) fun _=>NH _
structure dT (p q:Pos):Prop where
 cn:ax q
 v:q.variant=p.variant
 t:q.aa=p.aa
noncomputable section
variable {p q:Pos}
theorem dT.ab (h:dT p q){bd:List Int}(hl:bd.length=64)(hb:∀x∈bd,0≤x∧x≤255)(pr:BitVec 64):dT p ⟨q.variant,bd,pr,q.ah,q.aa,q.ao,q.az,q.au,q.half,q.full⟩ :=
 ⟨⟨h.cn.v0,h.cn.v1,hl,hb,h.cn.kl,h.cn.k0,h.cn.t0,h.cn.t1,h.cn.rl,h.cn.r0,h.cn.p0,h.cn.p1,h.cn.cl,h.cn.c0,h.cn.h0,h.cn.f0⟩,h.v,h.t⟩
theorem dT.set (h:dT p q)(i:Nat){v:Int}(hv:0≤v∧v≤255):dT p ⟨q.variant,q.ab.set i v,q.ai,q.ah,q.aa,q.ao,q.az,q.au,q.half,q.full⟩ :=
 h.ab (by rw[List.length_set];exact h.cn.bl) (zM h.cn.b0 hv i) _
theorem dT.ai (h:dT p q)(pr:BitVec 64):dT p ⟨q.variant,q.ab,pr,q.ah,q.aa,q.ao,q.az,q.au,q.half,q.full⟩:=h.ab h.cn.bl h.cn.b0 pr
theorem dT.ah (h:dT p q)(i:Nat){v:Int}(hv:0≤v∧v≤255):dT p ⟨q.variant,q.ab,q.ai,q.ah.set i v,q.aa,q.ao,q.az,q.au,q.half,q.full⟩ :=
 ⟨⟨h.cn.v0,h.cn.v1,h.cn.bl,h.cn.b0,by rw[List.length_set];exact h.cn.kl,zM h.cn.k0 hv i,h.cn.t0,h.cn.t1,h.cn.rl,h.cn.r0,h.cn.p0,h.cn.p1,h.cn.cl,h.cn.c0,h.cn.h0,h.cn.f0⟩,h.v,h.t⟩
theorem dT.ao (h:dT p q){rk:List Int}(hl:rk.length=4)(hr:∀x∈rk,-128≤x∧x≤127):dT p ⟨q.variant,q.ab,q.ai,q.ah,q.aa,rk,q.az,q.au,q.half,q.full⟩ :=
 ⟨⟨h.cn.v0,h.cn.v1,h.cn.bl,h.cn.b0,h.cn.kl,h.cn.k0,h.cn.t0,h.cn.t1,hl,hr,h.cn.p0,h.cn.p1,h.cn.cl,h.cn.c0,h.cn.h0,h.cn.f0⟩,h.v,h.t⟩
theorem dT.att (h:dT p q)(i:Nat):dT p ⟨q.variant,q.ab,q.ai,q.ah,q.aa,q.ao.set i (-1),q.az,q.au,q.half,q.full⟩ :=
 h.ao (by rw[List.length_set];exact h.cn.rl) (zM h.cn.r0 (by omega) i)
theorem dT.az (h:dT p q){s:Int}(hs : -128≤s∧s≤127):dT p ⟨q.variant,q.ab,q.ai,q.ah,q.aa,q.ao,s,q.au,q.half,q.full⟩ :=
 ⟨⟨h.cn.v0,h.cn.v1,h.cn.bl,h.cn.b0,h.cn.kl,h.cn.k0,h.cn.t0,h.cn.t1,h.cn.rl,h.cn.r0,hs.1,hs.2,h.cn.cl,h.cn.c0,h.cn.h0,h.cn.f0⟩,h.v,h.t⟩
theorem dT.zz (h:dT p q){a b:Int}(ha : -9223372036854775808≤a∧a≤9223372036854775807)(hb : -9223372036854775808≤b∧b≤9223372036854775807):dT p ⟨q.variant,q.ab,q.ai,q.ah,q.aa,q.ao,q.az,q.au,a,b⟩ :=
 ⟨⟨h.cn.v0,h.cn.v1,h.cn.bl,h.cn.b0,h.cn.kl,h.cn.k0,h.cn.t0,h.cn.t1,h.cn.rl,h.cn.r0,h.cn.p0,h.cn.p1,h.cn.cl,h.cn.c0,ha,hb⟩,h.v,h.t⟩
theorem OF (h:dT p q)(b c:Int):dT p (qL q b c).1:=by unfold qL;refine al (P:=fun x:Pos×Bool=>dT p x.1) (fun _=>h) fun _=>al (P:=fun x:Pos×Bool=>dT p x.1) (fun _=>h) fun _=>?_;exact h.ah _ ⟨ky _,mX _⟩
theorem CT (h:dT p q)(b c:Int):dT p (hM q b c):=by unfold hM;refine al (P:=fun x:Pos=>dT p x) (fun _=>al (P:=fun x:Pos=>dT p x) (fun _=>?_) fun _=>h) fun _=>h;exact h.ah _ ⟨ky _,mX _⟩
end
noncomputable section
variable {p:Pos}(hp:ax p)(m:Mv)
include hp
theorem fj (i:Nat):0≤p.ab.getD i 0∧p.ab.getD i 0≤255:=dm hp.b0 (by omega) i
theorem GA (a:Pos)(b:Mv)(c:Int):dT p (bT a b p p m c):=by
 have h:dT p p:=⟨hp,rfl,rfl⟩;have z:(0:Int)≤0∧(0:Int)≤255:=by omega
 have bi:=fj hp;unfold bT;refine al (P:=fun x:Pos=>dT p x) (fun _=>((((h.set _ z).set _ z).set _ (bi _)).set _ (bi _))) fun _=>al (P:=fun x:Pos=>dT p x) (fun _=>(OF h _ _).set _ (y5 _ _)) fun _=>al (P:=fun x:Pos=>dT p x) (fun _=>al (P:=fun x:Pos=>dT p x) (fun _=>(((h.set _ z).set _ z).set _ (bi _)).set _ (y5 _ _)) fun _=>((h.set _ z).set _ z).set _ (bi _)) fun _=>al (P:=fun x:Pos=>dT p x) (fun _=>((h.set _ z).set _ (bi _)).set _ (y5 _ _)) fun _=>(h.set _ z).set _ (bi _)
omit hp in
theorem Gi {q:Pos}(h:dT p q)(a:Pos)(b:Mv)(c:Int):dT p (cC a b q p m c):=by unfold cC;repeat' (first|exact h|exact h.ai _|exact CT h _ _|exact(CT h _ _).ai _|refine al (P:=fun x:Pos=>dT p x) (fun _=>?_) (fun _=>?_))
omit hp in
theorem Ft (l:List Int)(hl:l.length≤64)(hin:∀s∈l,0≤s∧s<64){q:Pos}(h:dT p q)(a b:Pos)(c d:Mv)(e:Int):∃r,rG l (Int.ofNat l.length) a c b d e (0,q)=some r∧dT p r.2.2:=by
 refine aQ (I:=fun x=>0≤x.1∧x.1≤(l.length:Int)∧dT p x.2) (μ:=fun x=>((l.length:Int)-x.1).toNat) ?_ _ (by simp_all) (by simp;omega);rintro⟨n,o⟩ ⟨h0,h1,h2⟩;simp only at h0 h1 h2;by_cases hc:n<l.length
 ·have hf:=hin _ (eD (d:=default) (show n.toNat<l.length by omega));refine⟨aq (fun _=>ak (by simp[h0];omega) fun _=>ak (Tw hf.1 hf.2) fun _=>rfl) fun _=>rfl,al (fun _=>?_) fun h=>absurd h (by simpa using hc)⟩;rw[aF (n:=n+1) (by omega) (by omega)];exact⟨⟨by simp;omega,by simp;omega,h2.set _ (by omega)⟩,by simp;omega⟩
 ·exact⟨aq (fun h=>absurd h (by simpa using hc)) fun _=>rfl,al (fun h=>absurd h (by simpa using hc)) fun _=>h2⟩
omit hp in
theorem Gt {q:Pos}(h:dT p q)(a:Pos)(b:Mv)(c:Int):qy a b q p m c=true∧dT p (cU a b q p m c):=by
 have hl:=aJ (Ft (p:=p) (gF (rp q (wr .i64 m.to)) 64) (dC _ _) (fun _ h=>jL h) h a p b m c);constructor
 ·unfold qy;refine aq (fun _=>rfl) fun _=>aq (fun _=>rfl) fun _=>ak (t143 _ _) fun _=>ak (t142 _) fun _=>ak ?_ fun _=>rfl;rw[dw];exact hl.1
 ·unfold cU;refine al (P:=fun x:Pos=>dT p x) (fun _=>h) fun _=>al (P:=fun x:Pos=>dT p x) (fun _=>h) fun _=>?_;rw[dw];exact hl.2
omit hp in
theorem uB {c k:Int}(hc0:0≤c)(hc1:c≤1)(l:List Int)(hl:∀s∈l,-128≤s∧s≤127){q:Pos}(h:dT p q)(a b:Pos)(m1 m2:Mv)(e:Int):∃r,lY c k l a m1 b m2 e (0,q)=some r∧dT p r.2.2:=by
 refine aQ (I:=fun x=>0≤x.1∧x.1≤2∧dT p x.2) (μ:=fun x=>(2-x.1).toNat) ?_ _ (by simp_all) (by simp);rintro⟨n,o⟩ ⟨h0,h1,h2⟩;simp only at h0 h1 h2;by_cases hc:n<2
 ·have hs:=dm hl (d:=0) (by omega) n.toNat;have go1:xd (fun x:Int×Pos=>0≤x.1∧x.1≤2∧dT p x.2) (fun r:Int×Bool×Pos=>dT p r.2.2) (fun x=>(2-x.1).toNat) (2-n).toNat (.go (wr .i64 (n+1),o)):=by rw[aF (n:=n+1) (by omega) (by omega)];exact⟨⟨by simp;omega,by simp;omega,h2⟩,by simp;omega⟩
  have go2:∀i,xd (fun x:Int×Pos=>0≤x.1∧x.1≤2∧dT p x.2) (fun r:Int×Bool×Pos=>dT p r.2.2) (fun x=>(2-x.1).toNat) (2-n).toNat (.go (wr .i64 (n+1),⟨o.variant,o.ab,o.ai,o.ah,o.aa,o.ao.set i (-1),o.az,o.au,o.half,o.full⟩)):=by intro i;rw[aF (n:=n+1) (by omega) (by omega)];exact⟨⟨by simp;omega,by simp;omega,h2.att i⟩,by simp;omega⟩
  have w1:wr .i64 c=c:=aF (by omega) (by omega);have w2:wr .i64 (56*c)=56*c:=aF (by omega) (by omega);have w3:wr .i64 (l.getD n.toNat 0)=l.getD n.toNat 0:=aF (by omega) (by omega);have w4:wr .i64 (56*c+l.getD n.toNat 0)=56*c+l.getD n.toNat 0:=aF (by omega) (by omega);have k1:(decide (0≤c)&&decide (c<Int.ofNat 2))=true:=by simp;omega
  have k2:(decide (0≤n)&&decide (n<Int.ofNat 2))=true:=by simp;omega
  refine⟨aq (fun _=>ak k2 fun _=>aq (fun _=>rfl) fun g0=>aq (fun _=>rfl) fun g1=>?_) fun _=>rfl,al (fun _=>?_) (by simp_all)⟩
  ·rw[w1,w2,w3,w4];have g0:0≤l.getD n.toNat 0:=by simpa using g0
   have g1:l.getD n.toNat 0≤7:=by simpa using g1
   have k3:(decide (0≤56*c+l.getD n.toNat 0)&&decide (56*c+l.getD n.toNat 0<Int.ofNat 64))=true:=Tw (by omega) (by omega);simp_all
  grind
 ·exact⟨aq (fun h=>absurd h (by simpa using hc)) fun _=>rfl,al (fun h=>absurd h (by simpa using hc)) fun _=>h2⟩
omit hp in
theorem gT {q:Pos}(h:dT p q)(a b:Pos)(m1 m2:Mv)(e:Int):∃r,dY a m1 b m2 e (0,q)=some r∧dT p r.2.2:=by
 refine aQ (I:=fun x=>0≤x.1∧x.1≤2∧dT p x.2) (μ:=fun x=>(2-x.1).toNat) ?_ _ (by simp_all) (by simp);rintro⟨n,o⟩ ⟨h0,h1,h2⟩;simp only at h0 h1 h2;by_cases hc:n≤1
 ·have hr:∀s∈List.take 2 (List.drop (scale 2 n).toNat o.ao),-128≤s∧s≤127:=fun s hs=>h2.cn.r0 s (by grind);have hl:=aJ (uB (p:=p) (k:=bg o n 6) h0 hc _ hr h2 a b m1 m2 e);refine⟨aq (fun _=>ak (t145 _ _ _) (by grind)) fun _=>rfl,al (fun _=>?_) (by simp_all)⟩;rw[kD (n:=n+1) (by omega) (by omega)];exact⟨⟨by simp;omega,by simp;omega,hl.2⟩,by simp;omega⟩
 ·exact⟨aq (fun h=>absurd h (by simpa using hc)) fun _=>rfl,al (fun h=>absurd h (by simpa using hc)) fun _=>h2⟩
theorem Hd (ht:p.aa≤1){q:Pos}(h:dT p q)(hm:m.bh=0→0≤m.aD∧m.aD<64)(a:Pos)(b:Mv)(c:Int):oW a b q p m c=true∧dT p (df a b q p m c):=by
 have t0:=hp.t0;have h2:dT p ⟨q.variant,q.ab,q.ai,q.ah,q.aa,List.take (scale 2 q.aa).toNat q.ao++li [-1,-1]++List.drop ((scale 2 q.aa).toNat+2) q.ao,q.az,q.au,q.half,q.full⟩:=by
  refine h.ao ?_ ?_
  ·have hr:=h.cn.rl;have:(scale 2 q.aa).toNat≤2:=by rw[h.t];unfold scale;simp;omega
   grind
  ·intro x hx;simp only[List.mem_append,li]at hx;rcases hx with(hx|hx)|hx
   ·exact h.cn.r0 x (by grind)
   ·simp at hx;omega
   ·exact h.cn.r0 x (by grind)
 have a1:=aJ (gT h a p b m c);have a2:=aJ (gT h2 a p b m c);have k1:(decide (0≤q.aa)&&decide (q.aa<Int.ofNat 2))=true:=by rw[h.t];simp;omega
 constructor
 ·unfold oW;grind
 ·unfold df;grind
omit hp in
theorem Hc {q:Pos}(h:dT p q)(hm:m.bh=0→0≤m.aD∧m.aD<64)(a:Pos)(b:Mv)(c:Int):qp a b q p m c=true∧dT p (dG a b q p m c):=by
 constructor
 ·unfold qp;refine aq (fun _=>?_) fun hd=>ak ?_ fun _=>?_
  ·simp_all
  ·simp_all
  ·repeat' (first|with_reducible rfl|with_reducible exact t146 _ _|with_reducible exact t147 _ _ _|refine ak ?_ (fun _=>?_)|refine aq (fun _=>?_) (fun _=>?_))
 ·have n1:(-128:Int) ≤ -1∧(-1:Int)≤127:=by omega
  unfold dG;repeat' (first|exact h.az n1|exact h.az (Sg _)|refine al (P:=fun x:Pos=>dT p x) (fun _=>?_) (fun _=>?_))
omit hp in
theorem Jt {q:Pos}(h:dT p q)(hm:m.bh=0→0≤m.aD∧m.aD<64)(a:Pos)(b:Mv)(c:Int):lS a b q p m c=true∧dT p (de a b q p m c):=by
 constructor
 ·unfold lS;grind
 ·have z:(-9223372036854775808:Int)≤0∧(0:Int)≤9223372036854775807:=by omega
  have f1:=h.cn.f0;have f2:=zY h.cn.f0;have f3:=zY h.cn.h0;unfold de;repeat' (first|exact h.zz z f1|exact h.zz z f2|exact h.zz f3 f1|exact h.zz f3 f2|refine al (P:=fun x:Pos=>dT p x) (fun _=>?_) (fun _=>?_))
theorem aaR (ht:p.aa≤1){q:Pos}(h:dT p q)(a:Pos)(b:Mv)(c:Int):mU a b q p m c=true∧ax (da a b q p m c)∧(da a b q p m c).variant=p.variant∧(da a b q p m c).aa=1-p.aa:=by
 have t0:=hp.t0;have w1:wr .u8 (1-p.aa)=1-p.aa:=kD (by omega) (by omega);have w2:wr .u8 (1-(1-p.aa))=p.aa:=by rw[kD (by omega) (by omega)];omega
 have k1:(decide (0≤p.aa)&&decide (p.aa<Int.ofNat 2))=true:=by simp;omega
 have hq:ax ⟨q.variant,q.ab,q.ai,q.ah,1-p.aa,q.ao,q.az,q.au,q.half,q.full⟩ :=
  ⟨h.cn.v0,h.cn.v1,h.cn.bl,h.cn.b0,h.cn.kl,h.cn.k0,by simp_all,by grind,h.cn.rl,h.cn.r0,h.cn.p0,h.cn.p1,h.cn.cl,h.cn.c0,h.cn.h0,h.cn.f0⟩
 constructor
 ·unfold mU;rw[h.t,w1,w2];refine aq (fun _=>ak k1 fun _=>aq (fun _=>ak (t149 h.cn.v0 (by omega)) (by simp_all)) fun _=>rfl) fun _=>rfl
 ·unfold da;rw[h.t,w1,w2];have base:ax ⟨q.variant,q.ab,q.ai,q.ah,1-p.aa,q.ao,q.az,q.au,q.half,q.full⟩∧q.variant=p.variant∧(1-p.aa=1-p.aa):=⟨hq,h.v,rfl⟩;refine al (P:=fun x:Pos=>ax x∧x.variant=p.variant∧x.aa=1-p.aa) (fun _=>al (P:=fun x:Pos=>ax x∧x.variant=p.variant∧x.aa=1-p.aa) (fun _=>al (P:=fun x:Pos=>ax x∧x.variant=p.variant∧x.aa=1-p.aa) (fun _=>?_) fun _=>base) fun _=>base) fun _=>base;exact⟨⟨hq.v0,hq.v1,hq.bl,hq.b0,hq.kl,hq.k0,hq.t0,hq.t1,hq.rl,hq.r0,hq.p0,hq.p1,by rw[List.length_set];exact hq.cl,zM hq.c0 ⟨ky _,mX _⟩ _,hq.h0,hq.f0⟩,h.v,rfl⟩
end
theorem iK {p:Pos}(hp:ax p){m:Mv}(h:m∈bR p):there p∧0≤m.aD∧m.aD<64∧0≤m.to∧m.to<64∧0≤m.bh∧m.bh≤5∧0≤m.bU∧m.bU≤6:=by
 rw[oD]at h;have n110:∀v:Int,9≤v→xo v=false:=fun v hv=>by unfold xo;simp_all
 have n113:∀v:Int,9≤v→sV v=false:=fun v hv=>by unfold sV;simp_all
 simp only[List.mem_append]at h;rcases h with(h|h)|h
 ·obtain⟨th,f,t,h1,h2,h3,h4,h5,h6,h7,h8,_⟩:=gv hp.v0 h;grind
 ·obtain⟨h1,h2,h3,h4,h5,h6,h7,h8⟩:=uQ hp h;refine⟨⟨h1,?_⟩,h2,h3,h4,h5,by omega,by omega,by omega,by omega⟩;refine Classical.byContradiction fun hv=>?_;unfold eW at h;simp_all
 ·obtain⟨h1,h2,h3,h4,h5,h6,h7,h8,h9⟩:=lV hp.t0 h;refine⟨⟨h1,?_⟩,by omega,by omega,h4,h5,by omega,h8,by omega,by omega⟩;grind
theorem kq {p:Pos}(hp:ax p)(m:Mv):J7 p m=true∧(m∈bR p→(du p m).2=true∧ax (du p m).1∧(du p m).1.variant=p.variant∧(du p m).1.aa=1-p.aa)∧(m∉bR p→du p m=(p,false)):=by
 have hlen:=kE hp;have hc:Kg (bR p) m=decide (m∈bR p):=mI (by omega);by_cases hm:m∈bR p
 ·obtain⟨th,f0,f1,g0,g1,d0,d1,r0,r1⟩:=iK hp hm;have hmf:m.bh=0→0≤m.aD∧m.aD<64:=fun _=>⟨f0,f1⟩;have hn:=DR hp m;have h1:=GA hp m p m (bC p m);have h2:=Gi m h1 p m (bC p m);have h4:=Gt m h2 p m (bC p m);have h8:=Hd hp m th.1 h4.2 hmf p m (bC p m);have h9:=Hc m h8.2 hmf p m (bC p m);have h10:=Jt m h9.2 hmf p m (bC p m);have h11:=aaR hp m th.1 h10.2 p m (bC p m);have kf:(decide (0≤m.aD)&&decide (m.aD<Int.ofNat 64))=true:=by simp;omega
  have kt:(decide (0≤m.to)&&decide (m.to<Int.ofNat 64))=true:=by simp;omega
  have kn:bC p m≥0→(decide (0≤bC p m)&&decide (bC p m<Int.ofNat 64))=true:=fun h=>by simp;omega
  have hg:=FX hp.t0 th.1 m;have ok1:pN p m p p m (bC p m)=true:=by
   unfold pN;have kg1:(decide (0≤(gL p m).1)&&decide ((gL p m).1<Int.ofNat 64))=true:=by simp;omega
   have kg2:(decide (0≤(gL p m).2.1)&&decide ((gL p m).2.1<Int.ofNat 64))=true:=by simp;omega
   refine aq (fun _=>?_) fun _=>aq (fun _=>?_) fun _=>aq (fun hh=>?_) fun _=>?_
   ·repeat' (first|with_reducible rfl|with_reducible exact t137 _ _|with_reducible exact kf|with_reducible exact kt|with_reducible exact kg1|with_reducible exact kg2|refine ak ?_ (fun _=>?_))
   ·refine ak (t138 hp.t0 d0) (by simp_all)
   ·simp_all
   ·simp_all
  have ok2:pS p m (bT p m p p m (bC p m)) p m (bC p m)=true:=by
   have e:0≤(bT p m p p m (bC p m)).aa:=h1.cn.t0;have bi:=fun i=>(fj hp i).1;unfold pS;refine aq (fun _=>rfl) fun _=>aq (fun _=>rfl) fun _=>aq (fun _=>ak (t137 _ _) fun _=>rfl) fun _=>aq (fun hh=>?_) fun _=>rfl;have hh:bC p m≥0:=by simpa using hh
   have kn:=kn hh;repeat' (first|with_reducible rfl|with_reducible exact kn|with_reducible exact t141 e (by decide)|with_reducible exact t141 e (Ty (bi _))|refine ak ?_ (fun _=>?_)|refine aq (fun _=>?_) (fun _=>?_))
  refine⟨?_,fun _=>?_,fun h=>absurd hm h⟩
  ·unfold J7;exact ak (t66 hp) fun _=>ak (t65 (by omega)) fun _=>aq (fun _=>rfl) fun _=>ak (t67 hp.v0 m) (by simp_all)
  ·unfold du;rw[hc];simp only[hm,decide_true,Bool.not_true,cond_false];exact⟨trivial,h11.2⟩
 ·refine⟨?_,fun h=>absurd h hm,fun _=>?_⟩
  ·unfold J7;refine ak (t66 hp) fun _=>ak (t65 (by omega)) fun _=>aq (fun _=>rfl) fun h=>?_;simp_all
  ·unfold du;rw[hc];simp[hm]
theorem t121 (p:Pos)(b:Int):sC p b=true:=ak (t145 _ _ _) fun _=>rfl
noncomputable section
variable {p:Pos}(hp:ax p)
include hp
theorem Q3 (m:Mv):0≤(du p m).1.variant:=by
 obtain⟨_,h1,h2⟩:=kq hp m;by_cases hm:m∈bR p
 ·rw[(h1 hm).2.2.1];exact hp.v0
 ·rw[h2 hm];exact hp.v0
theorem t126 (m:Mv):sy p m=true:=by have hv:=Q3 hp m;have t0:=hp.t0;have b1:=ky (1-p.aa);unfold sy;refine ak (kq hp m).1 fun _=>?_;have k1:mK p.variant p.aa=true:=t120 hp.v0 t0;have k2:mJ (du p m).1 p.aa=true:=t149 hv t0;have k3:mJ (du p m).1 (wr .u8 (1-p.aa))=true:=t149 hv b1;repeat' (first|with_reducible rfl|with_reducible exact k1|with_reducible exact k2|with_reducible exact k3|with_reducible exact t121 _ _|refine ak ?_ (fun _=>?_)|refine aq (fun _=>?_) (fun _=>?_))
theorem yj {l:M'}(hl:l.length≤1000000):dK 125 p l=true:=by
 unfold dK;rw[show(125:Nat).beq 125=true from rfl,cond_true];have h1:decide (l.length≤qI)=true:=by unfold qI;simp;omega
 rw[h1,Bool.true_and];exact oE.2 (t126 hp)
theorem yF {l:M'}(hl:l.length≤1000000):dK 127 p l=true:=by
 unfold dK;rw[show(127:Nat).beq 125=false from rfl,cond_false,show(127:Nat).beq 127=true from rfl,Bool.true_and];have h1:decide (l.length≤qI)=true:=by unfold qI;simp;omega
 rw[h1,Bool.true_and];exact rB.2 (t47 hp.v0)
omit hp in
theorem nc (l:M'):kept 125 p l=l.filter (gi p):=by unfold kept;simp_all
omit hp in
theorem R7 (l:M'):kept 127 p l=l.filter (hZ p):=by unfold kept;rw[show(127:Nat).beq 125=false from rfl,cond_false]
theorem Z7 (l:M')(hl:l.length≤1000000):∃r,ei l (Int.ofNat l.length) p 0=some r ∧
  match r with
  | .inl i=>0≤i∧∃m,m∈l∧hZ p m=true
  | .inr _=>∀m,m∈l→hZ p m=false:=by
 refine aQ (I:=fun x=>0≤x∧x≤(l.length:Int)∧∀m,m∈l.take x.toNat→hZ p m=false) (μ:=fun x=>((l.length:Int)-x).toNat) ?_ _ (by simp_all) (by simp;omega);rintro n ⟨h0,h1,h2⟩;by_cases hc:n<l.length
 ·have hlt:n.toNat<l.length:=by omega
  refine⟨aq (fun _=>ak (by simp[h0];exact hc) fun _=>ak (t47 hp.v0 _) fun _=>rfl) fun _=>rfl,al (fun _=>?_) (by simp_all)⟩;refine al (fun h=>⟨h0,_,eD hlt,h⟩) fun h=>?_;rw[aF (n:=n+1) (by omega) (by omega)];refine⟨⟨by omega,by omega,?_⟩,by dsimp only;omega⟩;rw[show(n+1).toNat=n.toNat+1 by omega,List.take_succ_eq_append_getElem hlt];grind
 ·refine⟨aq (fun h=>absurd h (by simpa using hc)) fun _=>rfl,al (fun h=>absurd h (by simpa using hc)) fun _=>?_⟩;show ∀m,m∈l→hZ p m=false;rw[List.take_of_length_le (by omega)]at h2;exact h2
theorem Mo (l:M')(hl:l.length≤1000000){α:Type}(x y:α) :
  (bif cQ ((ei l (Int.ofNat l.length) p 0).getD default)then bif decide (gl ((ei l (Int.ofNat l.length) p 0).getD default)≥0)then x else y else y)=bif l.any (hZ p)then x else y:=by
 have h:=(aJ (Z7 hp l hl)).2;generalize (ei l (Int.ofNat l.length) p 0).getD default=r at h⊢;cases r with
 |inl i =>
  obtain⟨h1,m,h2,h3⟩:=h;have:l.any (hZ p)=true:=by grind
  simp[cQ,gl,h1,this]
 |inr z =>
  have:l.any (hZ p)=false:=by rw[List.any_eq_false];intro m hm;rw[h m hm];simp
  simp[cQ,this]
theorem qE:((bR p).filter (gi p)).length≤20802:=Nat.le_trans (by grind) (kE hp)
theorem t64:Ct p=true:=by have h1:=kE hp;have h2:=qE hp;have k1:mK p.variant p.aa=true:=t120 hp.v0 hp.t0;have k2:uU p=true:=t66 hp;have k3:dK 125 p (bR p)=true:=yj hp (by omega);have k4:dK 127 p (kept 125 p (bR p))=true:=yF hp (by rw[nc];omega);have k5:(ei (kept 125 p (bR p)) (Int.ofNat (kept 125 p (bR p)).length) p 0).isSome=true:=(aJ (Z7 hp _ (by rw[nc];omega))).1;unfold Ct;repeat' (first|with_reducible rfl|with_reducible exact k1|with_reducible exact k2|with_reducible exact k3|with_reducible exact k4|with_reducible exact k5|with_reducible exact t121 _ _|refine ak ?_ (fun _=>?_)|refine aq (fun _=>?_) (fun _=>?_))
def mS (p:Pos):M':=bif p.variant==4 then bif((bR p).filter (gi p)).any (hZ p)then((bR p).filter (gi p)).filter (hZ p)else(bR p).filter (gi p)else(bR p).filter (gi p)
theorem Es:lI p=bif qA p.variant p.aa then bif !oO p p.aa then[]else mS p else mS p:=by have h2:=qE hp;unfold lI;have e:=fun (x y:M')=>Mo hp (kept 125 p (bR p)) (by rw[nc];omega) x y;rw[e];unfold mS;rw[R7,nc]
omit hp in
theorem vw {m:Mv}(h:m∈mS p):m∈bR p∧gi p m=true:=by revert h;unfold mS;grind
theorem FU {m:Mv}(h:m∈lI p):m∈bR p∧gi p m=true:=by rw[Es hp]at h;revert h;exact al (P:=fun l:M'=>m∈l→_) (fun _=>al (P:=fun l:M'=>m∈l→_) (fun _ h=>by cases h) fun _=>vw) fun _=>vw
omit hp in
theorem DF (hl:((bR p).filter (gi p)).length≤20802):(mS p).length≤20802:=by unfold mS;grind
theorem y8:(lI p).length≤20802:=by have h:=DF (qE hp);rw[Es hp];grind
omit hp in
theorem adf (l:M')(hl:l.length≤1000000)(q:Pos)(k:Int):(fu l (Int.ofNat l.length) q k 0).isSome=true:=by
 refine(aJ (Q:=fun _=>True) (aQ (I:=fun x=>0≤x∧x≤(l.length:Int)) (μ:=fun x=>((l.length:Int)-x).toNat) ?_ _ ⟨by simp,by simp⟩ (by simp;omega))).1;rintro n ⟨h0,h1⟩;by_cases hc:n<l.length
 ·refine⟨aq (fun _=>ak (by simp[h0];exact hc) fun _=>rfl) fun _=>rfl,al (fun _=>?_) fun h=>absurd h (by simpa using hc)⟩;rw[aF (n:=n+1) (by omega) (by omega)];have go:xd (fun x:Int=>0≤x∧x≤(l.length:Int)) (fun _:Int ⊕ (Int×Bool)=>True) (fun x=>((l.length:Int)-x).toNat) ((l.length:Int)-n).toNat (.go (n+1)):=⟨⟨by omega,by omega⟩,by dsimp only;omega⟩;exact al (fun _=>al (fun _=>trivial) fun _=>go) fun _=>go
 ·exact⟨aq (fun h=>absurd h (by simpa using hc)) fun _=>rfl,al (fun h=>absurd h (by simpa using hc)) fun _=>trivial⟩
theorem t187:C6 p=true:=by have h:=y8 hp;have k1:Ct p=true:=t64 hp;have k2:(fu (lI p) (Int.ofNat (lI p).length) p (bg p 1 6) 0).isSome=true:=adf _ (by omega) _ _;unfold C6;repeat' (first|with_reducible rfl|with_reducible exact k1|with_reducible exact k2|with_reducible exact t145 _ _ _|refine ak ?_ (fun _=>?_)|refine aq (fun _=>?_) (fun _=>?_))
omit hp in
theorem t182:F6 p=true:=ak (t121 _ _) fun _=>rfl
theorem t183 (ht:p.aa≤1):BY p=true:=by have t0:=hp.t0;unfold BY;rw[kD (n:=1-p.aa) (by omega) (by omega)];grind
omit hp in
theorem t184:Bz p=true:=by unfold Bz;repeat' (first|with_reducible rfl|with_reducible exact t145 _ _ _|refine ak ?_ (fun _=>?_)|refine aq (fun _=>?_) (fun _=>?_))
omit hp in
theorem t185:Gs p=true:=ak (t147 _ _ _) fun _=>rfl
omit hp in
theorem t186:Dy p=true:=by unfold Dy;repeat' (first|with_reducible rfl|with_reducible exact t147 _ _ _|refine ak ?_ (fun _=>?_)|refine aq (fun _=>?_) (fun _=>?_))
theorem t63:Br p=true:=by
 have v0:=hp.v0;unfold Br;refine aq (fun _=>rfl) fun h9=>aq (fun _=>rfl) fun ht=>?_;have h9:p.variant<9:=by simpa using h9
 have ht:p.aa≤1:=by simpa using ht
 refine ak (by simp;omega) fun _=>?_;have k3:=t182 (p:=p);have k4:=t186 (p:=p);have k5:=t183 hp ht;have k6:=t184 (p:=p);have k7:=t185 (p:=p);have k8:=t187 hp;grind
theorem t30:KV p=true:=ak (t63 hp) fun _=>aq (fun _=>rfl) fun _=>ak (t64 hp) fun _=>rfl
theorem KI:di p=bif(vK p).1 != 0 then[]else lI p:=rfl
theorem np:(di p).length≤20802:=by unfold di;exact al (P:=fun l:M'=>l.length≤20802) (fun _=>by simp) fun _=>y8 hp
end
def lN (r:Int×Int):Prop:=r=(0,0)∨((r.1=1∨r.1=2)∧(r.2=6∨r.2=7∨r.2=8))∨r=(3,6)
theorem L5 {c w:Int}(hc:c=0∨c=1)(hw:w=6∨w=7∨w=8):lN (dn c w):=by
 refine .inr (.inl ⟨?_,hw⟩);rcases hc with rfl|rfl
 ·exact .inl rfl
 ·exact .inr rfl
theorem eI {c w:Int}(hc:c=0∨c=1)(hw:w=6∨w=7∨w=8):lN ((dn c w).1,(dn c w).2):=L5 hc hw
theorem vU:lN (0,0) := .inl rfl
theorem Hm {p:Pos}(hp:ax p):lN (vK p)∧(((vK p).1=3∨(p.variant<3))→(vK p).1=0∨p.variant=8)∧((vK p).1≠0→3≤p.variant∧p.variant<9∧p.aa≤1):=by
 have t0:=hp.t0;have v0:=hp.v0;unfold vK;have nw:∀{P:Prop},lN ((0:Int),(0:Int))∧((((0:Int),(0:Int)).1=3∨P)→((0:Int),(0:Int)).1=0∨p.variant=8)∧(((0:Int),(0:Int)).1≠0→3≤p.variant∧p.variant<9∧p.aa≤1):=fun {P}=>⟨vU,fun _=>.inl rfl,fun h=>absurd rfl h⟩;have ci:=fun {d:Bool} {x y:Int×Int} => @al (Int×Int) (fun r=>lN r∧((r.1=3∨(p.variant<3))→r.1=0∨p.variant=8)∧(r.1≠0→3≤p.variant∧p.variant<9∧p.aa≤1)) d x y;refine ci (fun _=>nw) fun h9=>ci (fun _=>nw) fun ht=>?_;have h9:p.variant<9:=by simpa using h9
 have ht:p.aa≤1:=by simpa using ht
 have hc:p.aa=0∨p.aa=1:=by omega
 have hc':wr .u8 (1-p.aa)=0∨wr .u8 (1-p.aa)=1:=by rw[kD (by omega) (by omega)];omega
 have one:∀(r:Int×Int),lN r→r.1≠3→3≤p.variant→lN r∧((r.1=3∨(p.variant<3))→r.1=0∨p.variant=8)∧(r.1≠0→3≤p.variant∧p.variant<9∧p.aa≤1):=by grind
 have n3:∀{c w:Int},(c=0∨c=1)→(dn c w).1≠3:=fun {c w} h=>by rcases h with rfl|rfl<;>(show wr .u8 _≠3;decide)
 have z3:(((0:Int),(0:Int)).1)≠3:=by decide
 have cw:=fun {d:Bool} {x y:Int×Int} => @al (Int×Int) (fun r=>lN (r.1,r.2)∧r.1≠3) d x y;have w6:((6:Int)=6∨(6:Int)=7∨(6:Int)=8) := .inl rfl;have w7:((7:Int)=6∨(7:Int)=7∨(7:Int)=8) := .inr (.inl rfl);have w8:((8:Int)=6∨(8:Int)=7∨(8:Int)=8) := .inr (.inr rfl);have c0:((0:Int)=0∨(0:Int)=1) := .inl rfl;have c1:((1:Int)=0∨(1:Int)=1) := .inr rfl;have k113:lN ((Aw p).1,(Aw p).2)∧(Aw p).1≠3:=by unfold Aw;repeat' (first|exact⟨vU,z3⟩|exact⟨eI hc' w6,n3 hc'⟩|refine cw (fun _=>?_) (fun _=>?_))
 have k117:lN ((zK p).1,(zK p).2)∧(zK p).1≠3:=by unfold zK;repeat' (first|exact⟨vU,z3⟩|exact⟨eI hc w8,n3 hc⟩|exact⟨eI hc' w8,n3 hc'⟩|refine cw (fun _=>?_) (fun _=>?_))
 have k114:lN ((As p).1,(As p).2)∧(As p).1≠3:=by unfold As;repeat' (first|exact⟨vU,z3⟩|exact⟨eI hc w7,n3 hc⟩|exact⟨eI hc' w7,n3 hc'⟩|refine cw (fun _=>?_) (fun _=>?_))
 have k115:lN ((AE p).1,(AE p).2)∧(AE p).1≠3:=by unfold AE;repeat' (first|exact⟨vU,z3⟩|exact⟨eI hc w6,n3 hc⟩|exact⟨eI hc' w6,n3 hc'⟩|refine cw (fun _=>?_) (fun _=>?_))
 have k116:lN ((A7 p).1,(A7 p).2)∧(A7 p).1≠3:=by unfold A7;repeat' (first|exact⟨vU,z3⟩|exact⟨eI c1 w8,n3 c1⟩|refine cw (fun _=>?_) (fun _=>?_))
 have k118:lN ((zx p).1,(zx p).2):=by unfold zx;repeat' (first|exact vU|exact .inr (.inr rfl)|exact eI c0 w6|exact eI c1 w6|refine al (P:=fun r:Int×Int=>lN (r.1,r.2)) (fun _=>?_) (fun _=>?_))
 have vv:∀(n:Nat),(p.variant==Int.ofNat n)=true→p.variant=n:=by grind
 refine ci (fun _=>nw) fun n0=>ci (fun _=>nw) fun n1=>ci (fun _=>nw) fun n2=>ci (by grind) fun m3=>ci (by grind) fun n4=>ci (by grind) fun n5=>ci (by grind) fun n6=>ci (by grind) fun n7=>?_;grind
end Kz
namespace Kz
open Go Go.RowKit Go.Proofs
def agW:List (Nat×Nat×List (Nat×List Nat)):=[(30,9,[(0,[1]),(1,[1,6]),(2,[2]),(3,[2])]),(64,37,[(0,[1]),(1,[1,17]),(2,[2]),(3,[1,3]),(4,[1,3,4]),(5,[1,3,4,5]),(6,[3,4,5,31]),(7,[4]),(8,[2])]),(110,19,[(0,[0,1]),(1,[0,1,7,8]),(2,[0,1,7,8,9]),(3,[0,1,5,7,8]),(4,[0,1,5,7,8,16]),(5,[4]),(6,[0,1,7,8]),(7,[4])]),(122,9,[(0,[0,3]),(1,[4])]),(125,7,[(0,[1,2]),(1,[3])]),(127,7,[(0,[1,2]),(1,[3])]),(128,9,[(0,[0,1]),(1,[4])])]
def YW:ar:=gq Pz (fun f i=>lkC f i agW) [(47,G47),(63,G63),(66,DN),(120,D9),(121,Eb),(126,IL)] [] [(122,FK)]
theorem UU:aP YW:=ae af ⟨s47,s63,Fz,IC,JG,KH,trivial⟩ trivial ⟨sFK,trivial⟩
def Mh (p1:M')(p2:Int)(p3:Pos)(p4:Pos)(x:(Int)):St:=St.mk (AV.list ET.mv p1 (Tk.own 2)::AV.func 127 [] [AV.ptr 1 0]::(an 5 (AV.int .i64 p2::AV.int .i64 x::(an 10 [])))) (Hp.mk [(pc p3 []),(pc p4 [])] [0,0,p1.length] [] 0 0 0)
def PX (p1:M')(p2:Int)(p3:Pos)(p4:Pos):(Int) ⊕ (Int×Bool)→Out
 |(.inl (y))=>.ret (St.mk (an 4 (AV.int .i64 y::(an 14 []))) (Hp.mk [(pc p3 []),(pc p4 [])] [0,0,p1.length] [] 0 0 0))
 |(.inr (y))=>.exit 0 (St.mk (AV.list ET.mv p1 (Tk.own 2)::AV.func 127 [] [AV.ptr 1 0]::(an 5 (AV.int .i64 p2::AV.int .i64 y.fst::AV.bool y.snd::(an 9 [])))) (Hp.mk [(pc p3 []),(pc p4 [])] [0,0,p1.length] [] 0 0 0))
def Tc (p1:M')(p2:Int)(p3:Pos)(p4:Pos)(x:(Int)):aG (Int) ((Int) ⊕ (Int×Bool)):=(bif decide (x<p2)then(bif hZ p4 (p1.getD x.toNat default)then(aG.out (.inl x))else(aG.go (wr .i64 (x+1))))else(aG.out (.inr ((x,decide (x<p2))))))
def PG (p1:M')(p2:Int)(p3:Pos)(p4:Pos)(x:(Int)):Bool:=(bif decide (x<p2)then(decide (0≤x)&&decide (x<Int.ofNat p1.length)&&(xh p4 (p1.getD x.toNat default)&&true))else true)
def fq (p1:M')(p2:Int)(p3:Pos)(p4:Pos)(x:(Int)):Option ((Int) ⊕ (Int×Bool)):=cW (fun x=>bif PG p1 p2 p3 p4 x then Tc p1 p2 p3 p4 x else .bad) many x
abbrev LJ {α:Type}(k:M'→Int→Pos→Pos→(Int)→α)(s:St):α:=wP s 0 fun q0=>wP s 1 fun q1=>k (tL (ET.mv) (tT s 0)) (tI (tT s 7)) q0 q1 ((tI (tT s 8)))
theorem YI (p1:M')(p2:Int)(p3:Pos)(p4:Pos)(x:(Int))(r:(Int) ⊕ (Int×Bool))(h:fq p1 p2 p3 p4 x=some r):aC Pz (bc Pz 110 2) (Mh p1 p2 p3 p4 x) (PX p1 p2 p3 p4 r):=aC.Be (m:=12) (fn:=77) UU (LJ fun _ _ _ _ x=>some x) (fun o=>match o with | .ret s=>some (.inl (tI (tT s 4))) | .exit 0 s=>some (.inr ((tI (tT s 8)),(tB (tT s 9))))|_=>none) (fun r=>by cases r<;>rfl) (fun _=>by kernel_rfl) (fun _=>by kernel_rfl) (fun _=>by kernel_rfl) (fun _=>by kernel_rfl) many x r h
def NT (b:Code)(s:St):Tr Out:=LJ (fun p1 p2 p3 p4 x=>Bg b (bc Pz 110 2) s (Mh p1 p2 p3 p4 x) (fq p1 p2 p3 p4 x) (PX p1 p2 p3 p4)) s
theorem Rx:∀b,aT Pz b (NT b):=fun _ _ _ h=>eZ (YI _ _ _ _ _) h
def Uy:ar:=gq Pz (fun f i=>lkC f i agW) [(47,G47),(63,G63),(66,DN),(120,D9),(121,Eb),(126,IL)] [(110,2,NT)] [(122,FK)]
theorem aff:aP Uy:=ae af ⟨s47,s63,Fz,IC,JG,KH,trivial⟩ ⟨Rx,trivial⟩ ⟨sFK,trivial⟩
def BT:bK→Option (M'×Nat)
 | .ret (.list .mv m (.own k)) h=>(h.ag[k]?).map fun n=>(m,n)
 |_=>none
def Yb (a:Pos):M'×Nat:=(bif(vK a).fst != 0 then([],0)else(bif qA a.variant a.aa then(bif !oO a a.aa then([],0)else(bif a.variant==4 then(bif cQ ((fq (kept 125 a (bR a)) (Int.ofNat (kept 125 a (bR a)).length) a a 0).getD default)then(bif decide (gl ((fq (kept 125 a (bR a)) (Int.ofNat (kept 125 a (bR a)).length) a a 0).getD default)≥0)then((kept 127 a (kept 125 a (bR a))),(kept 127 a (kept 125 a (bR a))).length)else((kept 125 a (bR a)),(kept 125 a (bR a)).length))else((kept 125 a (bR a)),(kept 125 a (bR a)).length))else((kept 125 a (bR a)),(kept 125 a (bR a)).length)))else(bif a.variant==4 then(bif cQ ((fq (kept 125 a (bR a)) (Int.ofNat (kept 125 a (bR a)).length) a a 0).getD default)then(bif decide (gl ((fq (kept 125 a (bR a)) (Int.ofNat (kept 125 a (bR a)).length) a a 0).getD default)≥0)then((kept 127 a (kept 125 a (bR a))),(kept 127 a (kept 125 a (bR a))).length)else((kept 125 a (bR a)),(kept 125 a (bR a)).length))else((kept 125 a (bR a)),(kept 125 a (bR a)).length))else((kept 125 a (bR a)),(kept 125 a (bR a)).length))))
def L6 (a:Pos):Bool:=(Br a&&(bif(vK a).fst != 0 then true else(mK a.variant a.aa&&(bif qA a.variant a.aa then(sC a a.aa&&(bif !oO a a.aa then true else(uU a&&(dK 125 a (bR a)&&(bif a.variant==4 then((fq (kept 125 a (bR a)) (Int.ofNat (kept 125 a (bR a)).length) a a 0).isSome&&bif cQ ((fq (kept 125 a (bR a)) (Int.ofNat (kept 125 a (bR a)).length) a a 0).getD default)then(bif decide (gl ((fq (kept 125 a (bR a)) (Int.ofNat (kept 125 a (bR a)).length) a a 0).getD default)≥0)then(dK 127 a (kept 125 a (bR a))&&true)else true)else true)else true)))))else(uU a&&(dK 125 a (bR a)&&(bif a.variant==4 then((fq (kept 125 a (bR a)) (Int.ofNat (kept 125 a (bR a)).length) a a 0).isSome&&bif cQ ((fq (kept 125 a (bR a)) (Int.ofNat (kept 125 a (bR a)).length) a a 0).getD default)then(bif decide (gl ((fq (kept 125 a (bR a)) (Int.ofNat (kept 125 a (bR a)).length) a a 0).getD default)≥0)then(dK 127 a (kept 125 a (bR a))&&true)else true)else true)else true)))))))
theorem akR (a:Pos):((Ii Uy 14 30 [Pos.av a] sG).qt BT).val=L6 a:=by kernel_rfl
theorem aom (a:Pos):(Ii Uy 14 30 [Pos.av a] sG).vt BT=Yb a:=by kernel_rfl
theorem Cc (l:M')(p:Pos):fq l (Int.ofNat l.length) p p 0=ei l (Int.ofNat l.length) p 0:=rfl
theorem RN {p:Pos}(hp:ax p):L6 p=true:=by have h1:=kE hp;have h2:=qE hp;have k0:Br p=true:=t63 hp;have k1:mK p.variant p.aa=true:=t120 hp.v0 hp.t0;have k2:uU p=true:=t66 hp;have k3:dK 125 p (bR p)=true:=yj hp (by omega);have k4:dK 127 p (kept 125 p (bR p))=true:=yF hp (by rw[nc];omega);have k5:(ei (kept 125 p (bR p)) (Int.ofNat (kept 125 p (bR p)).length) p 0).isSome=true:=(aJ (Z7 hp _ (by rw[nc];omega))).1;unfold L6;rw[Cc];repeat' (first|with_reducible rfl|with_reducible exact k0|with_reducible exact k1|with_reducible exact k2|with_reducible exact k3|with_reducible exact k4|with_reducible exact k5|with_reducible exact t121 _ _|refine ak ?_ (fun _=>?_)|refine aq (fun _=>?_) (fun _=>?_))
theorem Vf (p:Pos):Yb p=(di p,(di p).length):=by unfold Yb di lI;rw[Cc];grind
theorem agT (p:Pos)(hp:ax p)(w:World)(hg:cN w)(v:Value)(hv:aN (cK w) [] w (Pos.av p) v) :
  Calls Tryz.prog 30 #[v] w fun e w'=>∃a cap,e=.returned (.slice a (di p).length cap)∧RowKit.Below w.heap.size w w'∧mT w w' a cap (di p):=by
 obtain⟨r,h1,h2⟩:=uc (d:=BT) (R:=fun r v=>BT r=some v) (Ii Uy 14 30 [Pos.av p] sG) (zq (by kernel_rfl)) (fun a _ v hv=>hv) ((akR p).trans (RN hp));rw[aom,Vf]at h2;obtain⟨hspec,_⟩:=(sF aff 14).1 _ _ _ _ h1;unfold BT at h2;split at h2
 ·rename_i m k h;simp only[H',Prod.mk.injEq]at h2;obtain⟨n0,hk,hml,hnl⟩:=h2;subst hnl;have hml':m=di p:=hml;clear hml;subst hml';refine(callsIn_wide.1 (hspec (cK w) w #[v] (QI hg) (.cons hv .nil))).mono ?_;rintro e w' ⟨g',x,rfl,nx,hx⟩;generalize di p=l at *;have hbase:g'.base=w.heap.size:=nx.le.base;cases hx with
  |list hn hE hS hT hC =>
  rename_i a n cap cs;subst hn;have hcs:=dN hE;obtain⟨n',hn1,hn2,hown⟩:=hT k rfl;rw[hk]at hn1;simp only[A']at hn1;obtain⟨ow,how,hOI⟩:=hown hn1;refine⟨a,cap,rfl,nx.le.below,?_⟩;cases ow with
  |none =>obtain⟨ha,hlen,hcap⟩:=hOI;exact .inl ⟨ha,List.eq_nil_of_length_eq_zero hlen,hcap⟩
  |some t =>
   obtain⟨b,cap',z'⟩:=t;obtain⟨rfl,rfl,rfl⟩:=hOI;obtain⟨_,cells,ty,_,_,hmax,hb,hblk,hsz,_,_⟩:=nx.mr.tok k b cap (lA .mv) how;refine .inr ⟨b,ty,rfl,by omega,aB hblk,hC,hmax,rfl,rfl,rfl,Nat.le_refl _,fun _ _ _=>rfl,cells,hblk,hsz.1,fun j c hj hc=>?_⟩;have hj':j<l.length:=by simpa using hj
   have h1:j*5+c<l.length*5:=by have:=(by omega);omega
   have hfl:=eE l j c hj' hc;have ea:l.toArray[j]! = l[j]:=by simp[hj']
   have eb:l[j]! = l[j]:=by simp[hj']
   rw[ea];rw[eb]at hfl;rcases hS with h0|⟨c',o',ha,hat,_⟩
   ·exfalso;have:=cZ l;simp_all
   ·simp only[A',Addr.mk.injEq,and_true]at ha;obtain⟨rfl,rfl⟩:=ha;have hx:cs[j*5+c]?=(bQ l[j])[c]? := by rw[hcs];exact hfl
    obtain⟨u,hu⟩:∃u,(bQ l[j])[c]?=some u:=⟨_,I' (show c<(bQ l[j]).length from hc)⟩;obtain⟨k1,_⟩:=hat (j*5+c) u (by rw[hx,hu]);rw[aw hblk,Nat.zero_add]at k1;simp_all
 ·cases h2
end Kz
namespace Go.Proofs
open Go.Shelf Go.RowKit Go.Lib Go.Sort Kz
def DM (p:Pos)(l:M'):M':=(sJ (dO fun a b=>CU a b p) l.toArray).toList
theorem CD (p:Pos)(l:M'):(DM p l).Perm l:=by have h:=UE (dO fun a b=>CU a b p) l.toArray;unfold Pm at h;simpa[DM]using h
theorem zC (p:Pos)(l:M'):(DM p l).length=l.length:=(CD p l).length_eq
set_option maxRecDepth 100000 in
theorem aol (p:Pos)(w w0:World)(hg:cN w)(hb:RowKit.Below w.heap.size w w0)(bx cap:Nat)(ty:TypeId)(hblk:w.heap.size≤bx)(pb po:Nat)(pcs:List Value)(hp:ay (cK w) [] w (bf (Pos.av p)) pcs)(hpb:pb<w.heap.size)(hc:∀j x,pcs[j]?=some x→w.cell? ⟨pb,po+j,none⟩=some x) :
  lT 105 #[.pointer (some ⟨pb,po,none⟩)] (fun a b=>CU a b p) bx 0 5 bQ (fun d W=>dq w0 bx cap ty d W∧d.size≤cap):=by
 have ld:∀{d:Array Mv} {W:World},dq w0 bx cap ty d W→∀i,i<d.size→Sem.run Tryz.prog (loadCellsFrom ⟨bx,0+i*5,none⟩ 0 5 #[]) W=.ok (bQ d[i]!).toArray W:=fun h i hi=>h.load hi;have st:∀{d:Array Mv} {W:World},dq w0 bx cap ty d W→d.size≤cap→∀i,i<d.size→∀y:Mv,Sem.run Tryz.prog (storeCells ⟨bx,0+i*5,none⟩ (bQ y) 0) W=.ok () (W.setCells bx (0+i*5) (bQ y)):=by
  intro d W h hs i hi y;obtain⟨cur,k1,k2,k3⟩:=h.row;have:=run_storeCells_cells (P:=Tryz.prog) bx (0+i*5) (bQ y) 0 W (fun j hj=>?_) (fun j hj=>bP k1) (pY y)
  ·simp_all
  ·rw[fC]at hj;rw[aw k1];grind
 have pt:∀{d:Array Mv} {W:World},dq w0 bx cap ty d W→d.size≤cap→∀i,i<d.size→∀y:Mv,dq w0 bx cap ty (d.setIfInBounds i y) (W.setCells bx (0+i*5) (bQ y)):=by intro d W h hs i hi y;rw[Nat.zero_add];exact h.put hi hs y
 have hbs:∀{d:Array Mv} {W:World},dq w0 bx cap ty d W→bx<W.heap.size:=fun h=>by obtain⟨cur,k1,_⟩:=h.row;exact aB k1
 refine⟨fC,by grind,fun h=>⟨⟨h.1.os,h.1.tape,h.1.output,h.1.size,h.1.other,h.1.row⟩,h.2⟩,by grind,fun h i j hi hj y x=>st (pt h.1 h.2 i hi y) (by simpa using h.2) j (by simpa using hj) x,fun {d W} h i j hi hj=>⟨?_,by rw[size_swp];exact h.2⟩,fun {d W} h x y=>?_,fun _ _=>rfl⟩
 ·exact pt (pt h.1 h.2 i hi d[j]!) (by simpa using h.2) j (by simpa using hj) d[i]!
 ·have old:∀k,k<w.heap.size→W.heap[k]?=w.heap[k]? := fun k hk=>by rw[h.1.other k (Nat.lt_of_lt_of_le hk hb.size) (by omega),hb.block k hk]
  have hsz:w.heap.size≤W.heap.size:=by grind
  have hs:=ape x y p;unfold aX at hs;have hgW:cN W:=gK hg hsz old;obtain⟨args,ha⟩:∃args:Array Value,args=#[Value.agg (bQ x).toArray,Value.agg (bQ y).toArray]++#[Value.pointer (some ⟨pb,po,none⟩)]:=⟨_,rfl⟩;rw[←ha];refine Calls.mono (callsIn_wide.1 (hs W args hgW ?_)) ?_
  ·have e:(#[Value.agg (bQ x).toArray,Value.agg (bQ y).toArray]++#[Value.pointer (some ⟨pb,po,none⟩)]).toList=[Value.agg (bQ x).toArray,Value.agg (bQ y).toArray,Value.pointer (some ⟨pb,po,none⟩)]:=by simp
   rw[ha,e];have r1:aN (cK W) [] W (Mv.av x) (Value.agg (bQ x).toArray) := .agg (my _ _ _ x);have r2:aN (cK W) [] W (Mv.av y) (Value.agg (bQ y).toArray) := .agg (my _ _ _ y);refine .cons r1 (.cons r2 (.cons (.ptrf (cs:=pcs) (b8 hp) ?_) .nil));intro j u hj;exact⟨by rw[cd (old _ hpb)];exact hc j u hj,Nat.lt_of_lt_of_le hpb hsz⟩
  ·rintro e w' ⟨v,rfl,hbw,hv⟩;cases hv;refine⟨rfl,⟨hbw.os.trans h.1.os,hbw.tape.trans h.1.tape,hbw.output.trans h.1.output,Nat.le_trans h.1.size hbw.size,fun k hk hn=>by rw[hbw.block k (Nat.lt_of_lt_of_le hk h.1.size)];exact h.1.other k hk hn,?_⟩,h.2⟩;obtain⟨cur,k1,k2⟩:=h.1.row;exact⟨cur,by rw[hbw.block bx (aB k1)];exact k1,k2⟩
set_option maxHeartbeats 2000000 in
set_option maxRecDepth 100000 in
theorem arX (a:Option Addr)(c:Nat)(fv:Value)(w:World):Calls Tryz.prog 224 #[.slice a 0 c,.int .i64 0,.int .i64 0,fv] w fun e w'=>e=.returned (.tuple #[])∧w'=w:=by
 go_enter Tryz.func224,Tryz.ntmps224;go_wp2;go_loopg [8] 0 (fun _ s8 wr=>s8=.int .i64 1∧wr=w);case atStart=>exact⟨rfl,rfl⟩
 case round =>obtain⟨rfl,rfl⟩:=hrel;go_wp2;go_end0;exact⟨rfl,rfl⟩
set_option maxHeartbeats 2000000 in
set_option maxRecDepth 100000 in
theorem afK (a:Option Addr)(c:Nat)(fv:Value)(w:World):Calls Tryz.prog 170 #[.slice a 0 c,.int .i64 0,fv] w fun e w'=>e=.returned (.tuple #[])∧w'=w:=by
 have h:=arX a c fv w;go_enter Tryz.func170,Tryz.ntmps170;go_wp2;go_loopg [7,8] 0 (fun _ s7 s8 wr=>s7=.int .i64 0∧s8=.int .i64 20∧wr=w);case atStart=>simp_all
 case round =>
  obtain⟨rfl,rfl,rfl⟩:=hrel;go_wp2_with fail;refine h.mono ?_;rintro e w' ⟨rfl,rfl⟩;clear h;go_wp2;go_loopg [6] 0 (fun _ s6 wr=>s6=.int .i64 20∧wr=w');case atStart=>exact⟨rfl,rfl⟩
  case round =>obtain⟨rfl,rfl⟩:=hrel;go_wp2;go_end0;exact⟨rfl,rfl⟩
set_option maxHeartbeats 2000000 in
set_option maxRecDepth 100000 in
theorem agP (a:Option Addr)(c:Nat)(fv:Value)(w:World):Calls Tryz.prog 104 #[.slice a 0 c,fv] w fun e w'=>e=.returned (.tuple #[])∧w'=w:=by have h:=afK a c fv w;go_enter Tryz.func104,Tryz.ntmps104;go_wp2_with fail;refine h.mono ?_;rintro e w' ⟨rfl,rfl⟩;go_wp2;go_end0;exact⟨rfl,rfl⟩
set_option maxHeartbeats 4000000 in
set_option maxRecDepth 100000 in
theorem aid (p:Pos)(l:M')(hl:l.length≤qI):aX Tryz.prog 48 [Pos.av p,.list .mv l .arg] (.list .mv (DM p l) .fresh):=by
 intro w bp hg hr;obtain⟨bp⟩:=bp;cases hr with
 |cons q1 r1 =>
 cases r1 with
 |cons q2 r2 =>
 cases r2;obtain⟨pcs,rfl,hpc⟩:=aN.cM (l:=bf (Pos.av p)) q1;cases q2 with
 |list hn hE hS hT hC =>
 rename_i a n cap cs;subst hn;clear q1;refine callsIn_wide.2 ?_;have hw1:RowKit.Below w.heap.size w ((w.alloc (Obj.cells pcs 31)).alloc (Obj.cells #[Value.slice a l.length cap] 34)):=((Below.refl _ w).alloc (Nat.le_refl _) _).alloc (by simp) _;have hs1:((w.alloc (Obj.cells pcs 31)).alloc (Obj.cells #[Value.slice a l.length cap] 34)).heap.size=w.heap.size+2:=by simp
 have hg1:cN ((w.alloc (Obj.cells pcs 31)).alloc (Obj.cells #[Value.slice a l.length cap] 34)):=gK hg hw1.size hw1.block;have hbp:((w.alloc (Obj.cells pcs 31)).alloc (Obj.cells #[Value.slice a l.length cap] 34)).heap[w.heap.size]?=some (.cells pcs 31 (0,0)):=by have h0:=Below.heap_alloc (w.alloc (Obj.cells pcs 31)) (Obj.cells #[Value.slice a l.length cap] 34) w.heap.size (by simp);rw[h0];exact heap_alloc_new w _
 have hbs:((w.alloc (Obj.cells pcs 31)).alloc (Obj.cells #[Value.slice a l.length cap] 34)).heap[w.heap.size+1]?=some (.cells #[Value.slice a l.length cap] 34 (0,0)):=by
  have h0:=heap_alloc_new (w.alloc (Obj.cells pcs 31)) (Obj.cells #[Value.slice a l.length cap] 34);have h1:(w.alloc (Obj.cells pcs 31)).heap.size=w.heap.size+1:=by simp
  rw[h1]at h0;exact h0
 have hcs:=dN hE;have hrl:aN (cK ((w.alloc (Obj.cells pcs 31)).alloc (Obj.cells #[Value.slice a l.length cap] 34))) [] ((w.alloc (Obj.cells pcs 31)).alloc (Obj.cells #[Value.slice a l.length cap] 34)) (.list .mv l .arg) (.slice a l.length cap):=by refine .list (cs:=cs) rfl (by rw[hcs];exact iJ _ _ _ _) (hS.imp id fun ⟨c,o,e1,e2,_⟩=>⟨c,o,e1,fun j x hj=>?_,fun f=>absurd rfl f⟩) (fun k e=>by cases e) hC;obtain⟨k1,k2⟩:=e2 j x hj;have hlt:c<w.heap.size:=k2;exact⟨by rw[cd (hw1.block _ hlt)];exact k1,by show c<_;omega⟩
 have hj:=aeX l hl _ hg1 (.slice (some ⟨w.heap.size+1,0,none⟩) 1 1) (.vlist (cs:=[.slice a l.length cap]) rfl (.cons rfl rfl (.one rfl hrl .nil) .nil) (.inr ⟨w.heap.size+1,0,rfl,fun j x hj=>by
  refine⟨?_,?_⟩
  ·simp_all
  ·show w.heap.size+1<_
   omega,fun f=>by cases f⟩) rfl)
 have hsort:∀(a':Option Addr) (cap':Nat) (w2:World),RowKit.Below ((w.alloc (Obj.cells pcs 31)).alloc (Obj.cells #[Value.slice a l.length cap] 34)).heap.size ((w.alloc (Obj.cells pcs 31)).alloc (Obj.cells #[Value.slice a l.length cap] 34)) w2 →
   ((a'=none∧l=[])∨∃b ty,a'=some ⟨b,0,none⟩∧((w.alloc (Obj.cells pcs 31)).alloc (Obj.cells #[Value.slice a l.length cap] 34)).heap.size≤b∧b<w2.heap.size∧l.length≤cap'∧dq w2 b cap' ty l.toArray w2) →
   Calls Tryz.prog 104 #[.slice a' l.length cap',.func (.func 105) #[] #[.pointer (some ⟨w.heap.size,0,none⟩)]] w2 fun e w'=>e=.returned (.tuple #[])∧RowKit.Below w.heap.size w w'∧aN (rA w w') [] w' (.list .mv (DM p l) .fresh) (.slice a' l.length cap'):=by
  intro a' cap' w2 hb2 hx
  have hb02:RowKit.Below w.heap.size w w2:=hw1.trans (hb2.mono (by omega))
  rcases hx with⟨rfl,rfl⟩|⟨b,ty,rfl,k1,k2,k3,hrow⟩
  ·refine(agP none cap' _ w2).mono ?_
   rintro e w' ⟨rfl,rfl⟩
   refine⟨rfl,hb02,?_⟩
   have e0:DM p []=[]:=List.eq_nil_of_length_eq_zero (by rw[zC];rfl)
   rw[e0]
   exact .list (cs:=[]) rfl .nil (.inl rfl) (fun k e=>by cases e) (Nat.zero_le _)
  ·obtain⟨i0,z,a1,a2,a3,a4,a5⟩:=uL
   have hp2:∀j x,pcs.toList[j]?=some x→((w.alloc (Obj.cells pcs 31)).alloc (Obj.cells #[Value.slice a l.length cap] 34)).cell? ⟨w.heap.size,0+j,none⟩=some x:=by simp_all
   have L:=aol p _ w2 hg1 hb2 b cap' ty k1 w.heap.size 0 pcs.toList (b8 hpc) (by omega) hp2
   have hs:=Ba L (by simp_all) (by simp_all) cap' l.length l.toArray w2 (by simp) (by simp_all) (by unfold qI at hl;omega)
   refine hs.mono ?_
   rintro e w' ⟨rfl,hR,_⟩
   obtain⟨cur,c1,c2,c3⟩:=hR.row
   refine⟨rfl,⟨hR.os.trans hb02.os,hR.tape.trans hb02.tape,hR.output.trans hb02.output,by grind,fun k hk=>by
    rw[hR.other k (by omega) (by omega),hb02.block k hk]⟩,?_⟩
   have hlen:(DM p l).length=l.length:=zC p l
   refine .list (cs:=(DM p l).flatMap bQ) hlen.symm (iJ _ _ _ _) (.inr ⟨b,0,rfl,fun j x hj=>?_,fun _=>by show w.heap.size≤b;omega⟩) (fun k e=>by cases e) (by omega)
   have hjl:j<(DM p l).length*5:=by rw[←cZ];exact(by grind)
   have hdm:j=j / 5*5+j%5:=by omega
   have hq5:j / 5<(DM p l).length:=by omega
   have hfl:=eE (DM p l) (j / 5) (j%5) hq5 (by omega)
   rw[←hdm,hj]at hfl
   refine⟨?_,show w.heap.size≤b∧b<w'.heap.size from⟨by omega,aB c1⟩⟩
   rw[aw c1,Nat.zero_add]
   have h3:=c3 (j / 5) (j%5) (show j / 5<(sJ (dO fun a b=>CU a b p) l.toArray).toList.length from hq5) (by omega)
   rw[←hdm]at h3
   rw[h3,hfl]
   congr 2
   have ea:(DM p l)[j / 5]! = (DM p l)[j / 5]:=by simp[hq5]
   rw[ea]
   have hq6:j / 5<(sJ (dO fun a b=>CU a b p) l.toArray).size:=hq5
   have eb:=getElem!_pos (sJ (dO fun a b=>CU a b p) l.toArray) (j / 5) hq6
   rw[eb]
   simp[DM]
 have HJ:=Lib.hid hj;have HS:=Lib.hid hsort;clear hw1 hs1 hg1 hbp hbs hcs hrl hj hsort hS hT hE hC hpc hg;go_enter Tryz.func48,Tryz.ntmps48;go_wp2_with fail;refine HJ.out.mono ?_;rintro e w2 ⟨a',cap',rfl,hb2,hx⟩;have hc:=HS.out a' cap' w2 hb2 hx;clear HJ HS hb2 hx;go_wp2_with fail;refine hc.mono ?_;rintro e w3 ⟨rfl,hb3,hr3⟩;have HB:=Lib.hid hb3;have HR:=Lib.hid hr3;clear hb3 hr3 hc;go_wp2_with fail;go_ret;exact⟨_,rfl,HB.out,HR.out⟩
end Go.Proofs
namespace Kz
open Go Go.RowKit Go.Proofs
def ar4:KT:=[]
def adg:ar:=bO Pz ar4 [] [] []
theorem aif:aP adg:=ae af trivial trivial trivial
def V66:AV:=AV.agg [AV.func 63 [] [],AV.func 179 [] [],AV.func 180 [] [],AV.func 181 [] []]
def agI:Bool:=true
theorem alN:cO adg 14 118 []=Tr.ret V66:=by kernel_rfl
theorem ara (_:agI=true):PS Pz 118 [] V66:=nq aif (by rw[alN];rfl)
def adX:GT:=g0 (.ret V66)
theorem asO:Sound Pz 118 adX:=tV (bH (ara rfl))
def ao9:KT:=[(227,5,[(0,[0,2]),(1,[2])])]
def apj:ar:=bO Pz ao9 [] [] []
theorem aiH:aP apj:=ae af trivial trivial trivial
def BJ (a:Int):(Int×Int):=⟨(3),(a)⟩
def aes (a:Int):Bool:=true
theorem ak9 (a:Int)(h:aes a=true):PS Pz 227 [.int .u8 a] ((dR .u8 .u8).res (BJ a)):=pq14 aiH h
def TY:GT:=g1 (dI .u8) (fun a=>.ret ((dR .u8 .u8).res (BJ a)))
theorem aaH:Sound Pz 227 TY:=aH fun a=>bH (ak9 a rfl)
def arK:KT:=[(179,26,[(0,[1,2]),(1,[1,2,6]),(2,[2]),(3,[1,2,8]),(4,[2]),(5,[1,2,16]),(6,[2]),(7,[2])])]
def anw:ar:=bO Pz arK [(30,G30),(149,qv),(227,TY)] [] []
theorem age:aP anw:=ae af ⟨s30,qV,aaH,trivial⟩ trivial trivial
def nT (a:Pos):(Int×Int):=(bif decide (Int.ofNat (di a).length>0)then⟨(0),(0)⟩else(bif a.variant==4 then⟨(wr .u8 (1+a.aa)),(8)⟩else(bif jv a a.aa then⟨(wr .u8 (2-a.aa)),(1)⟩else⟨((BJ 2).1),((BJ 2).2)⟩)))
def Il (a:Pos):Bool:=(KV a&&(bif decide (Int.ofNat (di a).length>0)then true else(bif a.variant==4 then true else(mJ a (a.aa)&&true))))
theorem amt (a:Pos)(h:Il a=true):PS Pz 179 [Pos.av a] ((dR .u8 .u8).res (nT a)):=pq14 age h
def acN:GT:=g1 aZ (fun a=>b7 (Il a) ((dR .u8 .u8).res (nT a)))
theorem aqY:Sound Pz 179 acN:=aH fun a=>aA (amt a)
def aov:KT:=[(258,12,[(0,[1,2]),(1,[4])])]
def aoF:ar:=bO Pz aov [(147,gh)] [] []
theorem aeY:aP aoF:=ae af ⟨gm,trivial⟩ trivial trivial
def eN (a:Pos)(b:Int):BitVec 64:=(aS a 0 b|||aS a 1 b)
def pO (a:Pos)(b:Int):Bool:=(cE a 0 b&&(cE a 1 b&&true))
theorem alL (a:Pos)(b:Int)(h:pO a b=true):PS Pz 258 [Pos.av a,.int .u8 b] (dU.res (eN a b)):=pq14 aeY h
def ahW:GT:=g2 aZ (dI .u8) (fun a b=>b7 (pO a b) (dU.res (eN a b)))
theorem aq2:Sound Pz 258 ahW:=aO fun a b=>aA (alL a b)
def akY:KT:=[(259,35,[(0,[0]),(1,[0]),(2,[0]),(3,[0]),(4,[0]),(5,[0]),(6,[0]),(7,[2])])]
def ar1:ar:=bO Pz akY [] [] []
theorem adb:aP ar1:=ae af trivial trivial trivial
def ko (a:BitVec 64):Int:=(lF BinOp.and .i64 (wr .i64 ↑((((((a >>> 1&&&6148914691236517205#64)+(a&&&6148914691236517205#64)) >>> 2&&&3689348814741910323#64)+((a >>> 1&&&6148914691236517205#64)+(a&&&6148914691236517205#64)&&&3689348814741910323#64)) >>> 4+((((a >>> 1&&&6148914691236517205#64)+(a&&&6148914691236517205#64)) >>> 2&&&3689348814741910323#64)+((a >>> 1&&&6148914691236517205#64)+(a&&&6148914691236517205#64)&&&3689348814741910323#64))&&&1085102592571150095#64)+(((((a >>> 1&&&6148914691236517205#64)+(a&&&6148914691236517205#64)) >>> 2&&&3689348814741910323#64)+((a >>> 1&&&6148914691236517205#64)+(a&&&6148914691236517205#64)&&&3689348814741910323#64)) >>> 4+((((a >>> 1&&&6148914691236517205#64)+(a&&&6148914691236517205#64)) >>> 2&&&3689348814741910323#64)+((a >>> 1&&&6148914691236517205#64)+(a&&&6148914691236517205#64)&&&3689348814741910323#64))&&&1085102592571150095#64) >>> 8+((((((a >>> 1&&&6148914691236517205#64)+(a&&&6148914691236517205#64)) >>> 2&&&3689348814741910323#64)+((a >>> 1&&&6148914691236517205#64)+(a&&&6148914691236517205#64)&&&3689348814741910323#64)) >>> 4+((((a >>> 1&&&6148914691236517205#64)+(a&&&6148914691236517205#64)) >>> 2&&&3689348814741910323#64)+((a >>> 1&&&6148914691236517205#64)+(a&&&6148914691236517205#64)&&&3689348814741910323#64))&&&1085102592571150095#64)+(((((a >>> 1&&&6148914691236517205#64)+(a&&&6148914691236517205#64)) >>> 2&&&3689348814741910323#64)+((a >>> 1&&&6148914691236517205#64)+(a&&&6148914691236517205#64)&&&3689348814741910323#64)) >>> 4+((((a >>> 1&&&6148914691236517205#64)+(a&&&6148914691236517205#64)) >>> 2&&&3689348814741910323#64)+((a >>> 1&&&6148914691236517205#64)+(a&&&6148914691236517205#64)&&&3689348814741910323#64))&&&1085102592571150095#64) >>> 8) >>> 16+((((((a >>> 1&&&6148914691236517205#64)+(a&&&6148914691236517205#64)) >>> 2&&&3689348814741910323#64)+((a >>> 1&&&6148914691236517205#64)+(a&&&6148914691236517205#64)&&&3689348814741910323#64)) >>> 4+((((a >>> 1&&&6148914691236517205#64)+(a&&&6148914691236517205#64)) >>> 2&&&3689348814741910323#64)+((a >>> 1&&&6148914691236517205#64)+(a&&&6148914691236517205#64)&&&3689348814741910323#64))&&&1085102592571150095#64)+(((((a >>> 1&&&6148914691236517205#64)+(a&&&6148914691236517205#64)) >>> 2&&&3689348814741910323#64)+((a >>> 1&&&6148914691236517205#64)+(a&&&6148914691236517205#64)&&&3689348814741910323#64)) >>> 4+((((a >>> 1&&&6148914691236517205#64)+(a&&&6148914691236517205#64)) >>> 2&&&3689348814741910323#64)+((a >>> 1&&&6148914691236517205#64)+(a&&&6148914691236517205#64)&&&3689348814741910323#64))&&&1085102592571150095#64) >>> 8+((((((a >>> 1&&&6148914691236517205#64)+(a&&&6148914691236517205#64)) >>> 2&&&3689348814741910323#64)+((a >>> 1&&&6148914691236517205#64)+(a&&&6148914691236517205#64)&&&3689348814741910323#64)) >>> 4+((((a >>> 1&&&6148914691236517205#64)+(a&&&6148914691236517205#64)) >>> 2&&&3689348814741910323#64)+((a >>> 1&&&6148914691236517205#64)+(a&&&6148914691236517205#64)&&&3689348814741910323#64))&&&1085102592571150095#64)+(((((a >>> 1&&&6148914691236517205#64)+(a&&&6148914691236517205#64)) >>> 2&&&3689348814741910323#64)+((a >>> 1&&&6148914691236517205#64)+(a&&&6148914691236517205#64)&&&3689348814741910323#64)) >>> 4+((((a >>> 1&&&6148914691236517205#64)+(a&&&6148914691236517205#64)) >>> 2&&&3689348814741910323#64)+((a >>> 1&&&6148914691236517205#64)+(a&&&6148914691236517205#64)&&&3689348814741910323#64))&&&1085102592571150095#64) >>> 8) >>> 16) >>> 32).toNat) 127)
def acK (a:BitVec 64):Bool:=true
theorem alF (a:BitVec 64)(h:acK a=true):PS Pz 259 [.u64 a] ((dI .i64).res (ko a)):=pq14 adb h
def acd:GT:=g1 dU (fun a=>.ret ((dI .i64).res (ko a)))
theorem ade:Sound Pz 259 acd:=aH fun a=>bH (alF a rfl)
def auc:KT:=[(228,68,[(0,(1::(rn 32 13 [59,60,61,64,65,66]))),(1,(1::3::(rn 32 13 [59,60,61,64,65,66]))),(2,(1::3::11::(rn 32 13 [59,60,61,64,65,66]))),(3,(1::3::11::12::(rn 32 13 [59,60,61,64,65,66]))),(4,(1::3::11::12::(rn 32 13 [59,60,61,64,65,66]))),(5,(1::4::(rn 32 13 []))),(6,(1::4::5::(rn 32 13 []))),(7,(4::5::27::(rn 32 13 []))),(8,[2]),(9,[2]),(10,[1,3,11,46,59,60,61,64,65,66]),(11,[1,3,46,59,60,61,64,65,66]),(12,[3,6,7,59,60,61,64,65,66]),(13,[2]),(14,[2])])]
def asv:ar:=bO Pz auc [(193,tQ),(258,ahW),(259,acd),(147,gh)] [] []
theorem aiC:aP asv:=ae af ⟨xD,aq2,ade,gm,trivial⟩ trivial trivial
def Ev (a:Pos):Bool:=(bif a.variant==0 then(bif a.variant==0 then(bif bm a &&& ~~~eN a 6 &&& ~~~eN a 3 &&& ~~~eN a 2 != 0#64 then(false)else(bif decide (ko (bm a &&& ~~~eN a 6)≤1)then(true)else(bif bm a &&& ~~~eN a 6==eN a 3 then(bif bm a &&& ~~~eN a 6&&&6172840429334713770#64==0#64 then(true)else(bm a &&& ~~~eN a 6 &&& ~~~6172840429334713770#64==0#64))else(false))))else(bif a.variant==3 then(bif a.variant==3 then(bif bm a==aS a 0 6|||aS a 1 6 then(bif ko (aS a 0 6)==1 then(ko (aS a 1 6)==1)else(false))else(false))else(false))else(bif a.variant==5 then(bif bm a==aS a 0 6|||aS a 1 6 then(bif ko (aS a 0 6)==1 then(ko (aS a 1 6)==1)else(false))else(false))else(false))))else(bif a.variant==1 then(bif bm a &&& ~~~eN a 6 &&& ~~~eN a 3 &&& ~~~eN a 2 != 0#64 then(false)else(bif decide (ko (bm a &&& ~~~eN a 6)≤1)then(true)else(bif bm a &&& ~~~eN a 6==eN a 3 then(bif bm a &&& ~~~eN a 6&&&6172840429334713770#64==0#64 then(true)else(bm a &&& ~~~eN a 6 &&& ~~~6172840429334713770#64==0#64))else(false))))else(bif a.variant==3 then(bif a.variant==3 then(bif bm a==aS a 0 6|||aS a 1 6 then(bif ko (aS a 0 6)==1 then(ko (aS a 1 6)==1)else(false))else(false))else(false))else(bif a.variant==5 then(bif bm a==aS a 0 6|||aS a 1 6 then(bif ko (aS a 0 6)==1 then(ko (aS a 1 6)==1)else(false))else(false))else(false)))))
def Cs (a:Pos):Bool:=(sl a&&(bif a.variant==0 then(bif a.variant==0 then(pO a 6&&(pO a 3&&(pO a 2&&true)))else(bif a.variant==3 then(bif a.variant==3 then(cE a 0 6&&(cE a 1 6&&true))else true)else(bif a.variant==5 then(cE a 0 6&&(cE a 1 6&&true))else true)))else(bif a.variant==1 then(pO a 6&&(pO a 3&&(pO a 2&&true)))else(bif a.variant==3 then(bif a.variant==3 then(cE a 0 6&&(cE a 1 6&&true))else true)else(bif a.variant==5 then(cE a 0 6&&(cE a 1 6&&true))else true)))))
theorem aqC (a:Pos)(h:Cs a=true):PS Pz 228 [Pos.av a] (dB.res (Ev a)):=pq14 aiC h
def adA:GT:=g1 aZ (fun a=>b7 (Cs a) (dB.res (Ev a)))
theorem aqB:Sound Pz 228 adA:=aH fun a=>aA (aqC a)
def aqE:KT:=[(180,7,[(0,[1,2]),(1,[2,4]),(2,[2]),(3,[2])])]
def aoN:ar:=bO Pz aqE [(228,adA),(227,TY)] [] []
theorem afC:aP aoN:=ae af ⟨aqB,aaH,trivial⟩ trivial trivial
def uK (a:Pos):(Int×Int):=(bif Ev a then⟨((BJ 3).1),((BJ 3).2)⟩else⟨(0),(0)⟩)
def F9 (a:Pos):Bool:=(Cs a&&true)
theorem alu (a:Pos)(h:F9 a=true):PS Pz 180 [Pos.av a] ((dR .u8 .u8).res (uK a)):=pq14 afC h
def ahi:GT:=g1 aZ (fun a=>b7 (F9 a) ((dR .u8 .u8).res (uK a)))
theorem aof:Sound Pz 180 ahi:=aH fun a=>aA (alu a)
def auq:KT:=[(181,8,[(0,[1,2]),(1,[2,5]),(2,[2]),(3,[2])])]
def ane:ar:=bO Pz auq [(227,TY)] [] []
theorem ahc:aP ane:=ae af ⟨aaH,trivial⟩ trivial trivial
def uH (a:Pos):(Int×Int):=(bif decide (a.half≥150)then⟨((BJ 4).1),((BJ 4).2)⟩else⟨(0),(0)⟩)
def ad7 (a:Pos):Bool:=true
theorem aru (a:Pos)(h:ad7 a=true):PS Pz 181 [Pos.av a] ((dR .u8 .u8).res (uH a)):=pq14 ahc h
def adq:GT:=g1 aZ (fun a=>.ret ((dR .u8 .u8).res (uH a)))
theorem arR:Sound Pz 181 adq:=aH fun a=>bH (aru a rfl)
def K62:KT:=[(62,29,[(0,[1,2,10,11,12]),(1,[1,2,13]),(2,[2]),(3,[1,2,15,16]),(4,[1,2,15,16,17]),(5,[1,2,4,15,16]),(6,[1,2,5,15,16]),(7,[1,2,5,15,16,25]),(8,[2]),(9,[1,2,15,16]),(10,[2])])]
def B62:ar:=bO Pz K62 [(63,G63),(118,adX),(179,acN),(180,ahi),(181,adq)] [] []
theorem asj:aP B62:=ae af ⟨s63,asO,aqY,aof,arR,trivial⟩ trivial trivial
def jo (a:Pos):(Int×Int):=(bif decide (a.variant≥9)then⟨(0),(0)⟩else(bif decide (a.aa>1)then⟨(0),(0)⟩else(bif(vK a).1 != 0 then⟨((vK a).1),((vK a).2)⟩else(bif(nT a).1 != 0 then⟨((nT a).1),((nT a).2)⟩else(bif(uK a).1 != 0 then⟨((uK a).1),((uK a).2)⟩else(bif(uH a).1 != 0 then⟨((uH a).1),((uH a).2)⟩else⟨(0),(0)⟩))))))
def TB (a:Pos):Bool:=(bif decide (a.variant≥9)then true else(bif decide (a.aa>1)then true else(Br a&&(bif(vK a).1 != 0 then true else(Il a&&(bif(nT a).1 != 0 then true else(F9 a&&true)))))))
theorem P62 (a:Pos)(h:TB a=true):PS Pz 62 [Pos.av a] ((dR .u8 .u8).res (jo a)):=pq14 asj h
def G62:GT:=g1 aZ (fun a=>b7 (TB a) ((dR .u8 .u8).res (jo a)))
theorem s62:Sound Pz 62 G62:=aH fun a=>aA (P62 a)
def K29:KT:=[(29,7,[(0,[1]),(1,[2])])]
def B29:ar:=bO Pz K29 [(62,G62)] [] []
theorem atW:aP B29:=ae af ⟨s62,trivial⟩ trivial trivial
def N29 (a:Pos):Bool:=((jo a).1 != 0)
def Yv (a:Pos):Bool:=(TB a&&true)
theorem P29 (a:Pos)(h:Yv a=true):PS Pz 29 [Pos.av a] (dB.res (N29 a)):=pq14 atW h
def G29:GT:=g1 aZ (fun a=>b7 (Yv a) (dB.res (N29 a)))
theorem s29:Sound Pz 29 G29:=aH fun a=>aA (P29 a)
end Kz
namespace Kz
open Go Go.RowKit
def cl (h f:Int)(p:Pos):Pos:=⟨p.variant,p.ab,p.ai,p.ah,p.aa,p.ao,p.az,p.au,h,f⟩
def aG.map {X X' R R':Type}(φ:X→X')(ψ:R→R'):aG X R→aG X' R'
 | .go x=>.go (φ x)
 | .out r=>.out (ψ r)
 | .bad=>.bad
noncomputable section
variable (h f:Int)(p:Pos)
end
noncomputable section
variable (h f h2 f2 h3 f3:Int)(a q p:Pos)(b m:Mv)(c:Int)
end
def mvd (p:Pos)(m:Mv):Pos:=da p m (de p m (dG p m (df p m (cU p m (cC p m (bT p m p p m (bC p m)) p m (bC p m)) p m (bC p m)) p m (bC p m)) p m (bC p m)) p m (bC p m)) p m (bC p m)
theorem HY (p:Pos)(m:Mv):du p m=bif !Kg (bR p) m then(p,false)else(mvd p m,true):=rfl
noncomputable section
variable {p:Pos}(hp:ax p)
include hp
variable {h f:Int}(hq:ax (cl h f p))
include hq
end
theorem asy (p:Pos)(b:Int):pO p b=true:=ak (t147 _ _ _) fun _=>ak (t147 _ _ _) fun _=>rfl
theorem t228 (p:Pos):Cs p=true:=by unfold Cs;repeat' (first|with_reducible rfl|with_reducible exact t193 _|with_reducible exact asy _ _|with_reducible exact t147 _ _ _|refine ak ?_ (fun _=>?_)|refine aq (fun _=>?_) (fun _=>?_))
theorem t180 (p:Pos):F9 p=true:=ak (t228 _) fun _=>rfl
theorem t179 {p:Pos}(hp:ax p):Il p=true:=ak (t30 hp) fun _=>aq (fun _=>rfl) fun _=>aq (fun _=>rfl) fun _=>ak (t149 hp.v0 hp.t0) fun _=>rfl
theorem t62 {p:Pos}(hp:ax p):TB p=true:=aq (fun _=>rfl) fun _=>aq (fun _=>rfl) fun _=>ak (t63 hp) fun _=>aq (fun _=>rfl) fun _=>ak (t179 hp) fun _=>aq (fun _=>rfl) fun _=>ak (t180 p) fun _=>rfl
theorem A0 {p:Pos}(h:¬there p):jo p=(0,0):=by
 unfold there at h;unfold jo;refine al (P:=fun r:Int×Int=>r=(0,0)) (fun _=>rfl) fun h1=>al (P:=fun r:Int×Int=>r=(0,0)) (fun _=>rfl) fun h2=>?_;have h1:p.variant<9:=by simpa using h1
 have h2:p.aa≤1:=by simpa using h2
 exact absurd ⟨h2,h1⟩ h
theorem rf {p:Pos}(h:there p):jo p=bif(vK p).1 != 0 then vK p else bif(nT p).1 != 0 then nT p else bif(uK p).1 != 0 then uK p else bif(uH p).1 != 0 then uH p else(0,0):=by obtain⟨h1,h2⟩:=h;unfold jo;rw[show decide (p.variant≥9)=false by simp;omega,show decide (p.aa>1)=false by simp;omega];rfl
theorem Gw (p:Pos):uK p=(3,3)∨uK p=(0,0):=by unfold uK;exact al (P:=fun r:Int×Int=>r=(3,3)∨r=(0,0)) (fun _=>.inl rfl) fun _=>.inr rfl
theorem FR (p:Pos):(uH p=(3,4)∧150≤p.half)∨(uH p=(0,0)∧p.half<150):=by unfold uH;exact al (P:=fun r:Int×Int=>(r=(3,4)∧_)∨(r=(0,0)∧_)) (fun h=>.inl ⟨rfl,by simpa using h⟩) fun h=>.inr ⟨rfl,by simpa using h⟩
theorem GP {p:Pos}(ht:there p)(hp:ax p)(h:(nT p).1≠0):(di p).length=0∧(nT p=(1+p.aa,8)∨(nT p=(2-p.aa,1)∧jv p p.aa=true)∨(nT p=(3,2)∧jv p p.aa=false)):=by
 have t0:=hp.t0;have t1:=ht.1;revert h;unfold nT;rw[kD (n:=1+p.aa) (by omega) (by omega),kD (n:=2-p.aa) (by omega) (by omega)];refine al (P:=fun r:Int×Int=>r.1≠0→(di p).length=0∧(r=(1+p.aa,8)∨(r=(2-p.aa,1)∧jv p p.aa=true)∨(r=(3,2)∧jv p p.aa=false))) (fun _ h=>absurd rfl h) fun hl=>?_;have hl:(di p).length=0:=by simpa using hl
 refine al (P:=fun r:Int×Int=>r.1≠0→(di p).length=0∧(r=(1+p.aa,8)∨(r=(2-p.aa,1)∧jv p p.aa=true)∨(r=(3,2)∧jv p p.aa=false))) (fun _ _=>⟨hl,.inl rfl⟩) fun _=>al (P:=fun r:Int×Int=>r.1≠0→(di p).length=0∧(r=(1+p.aa,8)∨(r=(2-p.aa,1)∧jv p p.aa=true)∨(r=(3,2)∧jv p p.aa=false))) (fun hk _=>⟨hl,.inr (.inl ⟨rfl,hk⟩)⟩) fun hk _=>⟨hl,.inr (.inr ⟨rfl,hk⟩)⟩
noncomputable section
variable {p:Pos}(hp:ax p){h f:Int}(hq:ax (cl h f p))
include hp hq
end
def U8 (r:Int×Int):Prop:=(0≤r.1∧r.1≤255)∧(0≤r.2∧r.2≤255)
theorem Y3 {p:Pos}(hp:ax p):U8 (jo p):=by
 have z:U8 (0,0):=by unfold U8;simp
 by_cases ht:there p
 ·rw[rf ht];have t0:=hp.t0;have t1:=ht.1;refine al (P:=U8) (fun _=>?_) fun _=>al (P:=U8) (fun h=>?_) fun _=>al (P:=U8) (fun _=>?_) fun _=>al (P:=U8) (fun _=>?_) fun _=>z
  ·rcases(Hm hp).1 with w|⟨w1,w2⟩|w
   ·rw[w];exact z
   ·unfold U8;omega
   ·rw[w];unfold U8;simp
  ·have h0:(nT p).1≠0:=by simpa using h
   obtain⟨_,e|⟨e,_⟩|⟨e,_⟩⟩:=GP ht hp h0
   ·rw[e];unfold U8;simp;omega
   ·rw[e];unfold U8;simp;omega
   ·rw[e];unfold U8;simp
  ·rcases Gw p with e|e
   ·rw[e];unfold U8;simp
   ·rw[e];exact z
  ·rcases FR p with⟨e,_⟩|⟨e,_⟩
   ·rw[e];unfold U8;simp
   ·rw[e];exact z
 ·rw[A0 ht];exact z
end Kz
namespace Go.Proofs
open Go.Shelf Go.RowKit Go.Lib Go.Sort
set_option maxHeartbeats 1000000 in
set_option maxRecDepth 100000 in
theorem aso (p:Kz.Mv→Bool)(g:Nat)(lb:Array Value)(eg:∀args w,(callFunc g args).run Tryz.prog w=.ok (.enter g args) w)(bx cap:Nat)(d:Array Kz.Mv)(w:World)(ty:TypeId)(hb:bx<w.heap.size)(hH:dq w bx cap ty d w)(hcap:d.size≤cap)(hmax:cap≤maxLen)
  (hpo:∀W dk x,dq w bx cap ty dk W→Calls Tryz.prog g (#[.agg (bQ x).toArray]++lb) W fun e w'=>e=.returned (.bool (p x))∧RowKit.Below W.heap.size W w') :
  Calls Tryz.prog 49 #[.slice (some ⟨bx,0,none⟩) d.size cap,.func (.func g) #[] lb] w fun e w'=>e=.returned (.slice (some ⟨bx,0,none⟩) (d.toList.filter fun x => !p x).length cap)∧dq w bx cap ty (d.toList.filter fun x => !p x).toArray w':=by
 have hsz:d.size≤9223372036854775807:=by unfold maxLen at hmax;omega
 have e6:∀args w,(callFunc 110 args).run Tryz.prog w=.ok (.enter 110 args) w:=fun args w=>by rfl
 have hp:PredBelow Tryz.prog g lb (fun x=>.agg (bQ x).toArray) p w:=fun W x hB=>(hpo W d x (hH.below hb hB)).mono fun e w' ⟨h1,h2⟩=>⟨h1,hB.trans (h2.mono hB.size)⟩
 have hIF:=AnyQ.slices_IndexFunc Tryz.ahg 5 Tryz.isAgg47 Tryz.sizeOf47 bQ fC p g lb eg bx 0 d.size cap d.toList w hp (by simp) hsz hb (fun j hj i v hi=>by
  have hi5:i<5:=(C'.1 hi).1
  have hj':j<d.size:=by simpa using hj
  obtain⟨cur,h1,h2,h3⟩:=hH.row
  rw[Kz.aw h1,Nat.zero_add,h3 j i hj' hi5]
  simp_all)
 rw[show d.toList.take d.size=d.toList from List.take_of_length_le (by simp)]at hIF;have tl:∀j,j<d.size→d.toList[j]! = d[j]! := by simp_all
 obtain⟨kp,HK⟩:∃kp:Nat→Bool,Hid (kp=fun j => !p d[j]!):=⟨_,rfl⟩;have hfil:(d.toList.filter fun x => !p x)=keptUpTo kp d d.size:=by rw[HK.out];exact(keptUpTo_filter (fun x => !p x) d).symm
 rw[hfil];rcases idxByFrom_spec (fun _ y=>p y) default d.toList 0 with⟨e1,hall⟩|⟨k0,hk0,e1,ht,hall⟩
 ·have e2:Lib.idxBy (fun _ y=>p y) d.toList default = -1:=e1;rw[e2]at hIF;have hkeep:∀j,j<d.size→kp j=true:=fun j hj=>by rw[HK.out];simp_all
  have e3:keptUpTo kp d d.size=d.toList:=by rw[keptUpTo_all kp d _ hkeep,range_map_get]
  have HH:Aside (dq w bx cap ty d w):=hH;have HB:Hid (bx<w.heap.size):=hb;clear hH hpo hp hb;go_enter Tryz.func49,Tryz.ntmps49;go_wp2_with (go_at_fn 110;refine hIF.mono ?_;rintro e w' ⟨rfl,hbl⟩);go_ret;rw[e3];exact⟨by simp,by simpa using HH.out.below HB.out hbl⟩
 ·have hk0':k0<d.size:=by simpa using hk0
  have e2:Lib.idxBy (fun _ y=>p y) d.toList default=(k0:Int):=by unfold Lib.idxBy;rw[e1];simp
  rw[e2]at hIF;have hkeep:∀j,j<k0→kp j=true:=fun j hj=>by rw[HK.out];grind
  have hdrop:kp k0=false:=by rw[HK.out];show(!p d[k0]!)=false;rw[←tl k0 hk0'];rw[show p d.toList[k0]! = true from ht];rfl
  have hne1:((k0:Int) == -1)=false:=by simp_all
  have HC:Aside _:=hpo;have HH:Aside (dq w bx cap ty d w):=hH;have HB:Hid (bx<w.heap.size):=hb;clear hpo hp hH hb hall ht e1 e2 tl;go_enter Tryz.func49,Tryz.ntmps49;go_wp2_with (go_at_fn 110;refine hIF.mono ?_;rintro e w' ⟨rfl,hbl⟩);have HBL:=Lib.hid hbl;clear hbl;go_loopg [5,6,7] d.size (fun gg s5 s6 _ wr=>∃(i j:Nat) (dk:Array Kz.Mv),s5=.int .i64 i∧s6=.int .i64 j∧j≤d.size∧d.size-j≤gg∧Aside (dq w bx cap ty dk wr)∧Aside (KeptInv kp d j i dk));case atStart=>exact⟨k0,k0+1,d,rfl,by go_num,by omega,by omega,HH.out.below HB.out HBL.out,KeptInv.start hkeep hdrop⟩
  case round =>
   obtain⟨i,j,dk,rfl,rfl,hjd,hgg,W2,I2⟩:=hrel;have hI:=I2.out;have hij:=hI.lt;have hds:=hI.size;by_cases hlt:j<d.size
   ·have hltz:(j:Int)<(d.size:Int):=by omega
    have c0:=(W2.out.cell (j:=j) (by omega) 0 (by omega)).1;have c1:=(W2.out.cell (j:=j) (by omega) 1 (by omega)).1;have c2:=(W2.out.cell (j:=j) (by omega) 2 (by omega)).1;have c3:=(W2.out.cell (j:=j) (by omega) 3 (by omega)).1;have c4:=(W2.out.cell (j:=j) (by omega) 4 (by omega)).1;simp only[hI.high j (by omega),bQ,List.getElem_cons_succ,List.getElem_cons_zero,Nat.add_zero]at c0 c1 c2 c3 c4;clear hI;generalize hu:d[j]! = u at c0 c1 c2 c3 c4;have C:Aside (d[j]! = u):=hu;clear hu
    have hW1:dq w bx cap ty dk (wr.alloc (Obj.cells #[Value.int IntKind.i8 u.aD,Value.int IntKind.i8 u.to,Value.int IntKind.u8 u.bU,Value.int IntKind.u8 u.bh,Value.bool u.bZ] 47)) :=
     W2.out.below HB.out ((Below.refl _ _).alloc (Nat.le_refl _) _)
    have hcall:Calls Tryz.prog g (#[Value.agg #[Value.int IntKind.i8 u.aD,Value.int IntKind.i8 u.to,Value.int IntKind.u8 u.bU,Value.int IntKind.u8 u.bh,Value.bool u.bZ]]++lb) _ _:=HC.out _ dk u hW1;have HW1:=Lib.hid hW1;clear hW1;cases hq:p u with
    |false =>
     rw[hq]at hcall;have HCALL:=Lib.hid hcall;clear hcall;go_wp2_with fail;refine HCALL.out.mono ?_;rintro e w2 ⟨rfl,hb2⟩;have hW2:=HW1.out.below HB.out hb2;have r0:=hW2.cell (j:=i) (by omega) 0 (by omega);have r1:=hW2.cell (j:=i) (by omega) 1 (by omega);have r2:=hW2.cell (j:=i) (by omega) 2 (by omega);have r3:=hW2.cell (j:=i) (by omega) 3 (by omega);have r4:=hW2.cell (j:=i) (by omega) 4 (by omega);simp only[Nat.add_zero]at r0;obtain⟨r0,f0⟩:=r0;obtain⟨r1,f1⟩:=r1;obtain⟨r2,f2⟩:=r2;obtain⟨r3,f3⟩:=r3;obtain⟨r4,f4⟩:=r4;have hcs:∀c,w2.cell? ⟨wr.heap.size,c,none⟩=(#[Value.int IntKind.i8 u.aD,Value.int IntKind.i8 u.to,Value.int IntKind.u8 u.bU,Value.int IntKind.u8 u.bh,Value.bool u.bZ]:Array Value)[c]? := fun c=>by rw[hb2.cell (p:=⟨wr.heap.size,c,none⟩) (by simp),Kz.aw (heap_alloc_new wr _)]
     have b0:=hcs 0;have b1:=hcs 1;have b2:=hcs 2;have b3:=hcs 3;have b4:=hcs 4;simp at b0 b1 b2 b3 b4;have HW2:=Lib.hid hW2;clear hcs hb2 hW2;go_wp2_with fail;go_roundg (d.size-(j+1));case measure=>omega
     case rel =>refine⟨i+1,j+1,dk.setIfInBounds i u,by go_num,by go_num,by omega,Nat.le_refl _,HW2.out.put (i:=i) (by omega) (by omega) u,(show Aside _ from ?_)⟩;have:=I2.out.keep hlt (by rw[HK.out];show(!p d[j]!)=true;rw[C.out,hq];rfl);rwa[C.out]at this
    |true =>
     rw[hq]at hcall;have HCALL:=Lib.hid hcall;clear hcall;go_wp2_with fail;refine HCALL.out.mono ?_;rintro e w2 ⟨rfl,hb2⟩;have HW2:=Lib.hid (HW1.out.below HB.out hb2);clear hb2;go_wp2_with fail;go_roundg (d.size-(j+1));case measure=>omega
     case rel=>exact⟨i,j+1,dk,rfl,by go_num,by omega,Nat.le_refl _,HW2.out,I2.out.skip (by rw[HK.out];show(!p d[j]!)=false;rw[C.out,hq];rfl)⟩
   ·obtain rfl:j=d.size:=by omega
    have hltz:¬(d.size:Int)<(d.size:Int):=by omega
    have hcl:∀ty,(Builtin.clear_ #[34] ty #[.slice (some ⟨bx,i*5,none⟩) (d.size-i) (cap-i)]).run Tryz.prog wr=.ok (.tuple #[]) (wr.setCells bx (i*5) (Builtin.zeroCells jW (d.size-i)).toList):=by
     obtain⟨cur,h1,h2,h3⟩:=W2.out.row;refine uI wr bx (i*5) (d.size-i) (cap-i) (by omega) (fun t ht=>?_) (fun t ht=>Kz.bP h1);rw[Kz.aw h1];have:d.size*5≤cap*5:=by omega
     have h5:(d.size-i)*5=d.size*5-i*5:=Nat.sub_mul _ _ _;rw[Array.getElem?_eq_getElem (by omega)];rfl
    have hid:i≤d.size:=by omega
    clear hI;go_wp2;go_ret;have hI:=I2.out;refine⟨by rw[hI.len];rfl,?_⟩;have:=W2.out.tail (i:=i) (n:=d.size-i) (by omega) (by omega) _ (ny (d.size-i));have e:keptUpTo kp d d.size=dk.toList.take i:=by
     have hsz':=hI.size;apply List.ext_getElem?;intro j;by_cases hj:j<i
     ·rw[hI.low j hj,List.getElem?_take_of_lt hj,getElem!_pos dk j (by omega),I' (by simp;omega)];simp
     ·rw[List.getElem?_eq_none (by rw[hI.len];omega),List.getElem?_eq_none (by simp;omega)]
    grind
end Go.Proofs
