/- SanParse: any text of at most 2000 bytes is read, at any position, as the document's answer tells. No conditions. -/
import Derived.Test.YtmhlngkbgbenhaaGreatDoorT7
import Derived.JoinedCond
set_option linter.unusedSectionVars false
set_option linter.unusedVariables false
set_option linter.unusedSimpArgs false
set_option linter.unnecessarySimpa false
noncomputable section
namespace Kz
open Go Go.RowKit Go.Proofs
set_option maxRecDepth 100000
set_option maxHeartbeats 4000000
abbrev L':=List UInt8
abbrev M':=List Mv
def K29:KT:=[(29,15,[(0,[3,4,5,6]),(1,[5,6,10]),(2,[5,6,7]),(3,[6,14]),(4,[]),(5,[6])]),(57,6,[(0,[2,3]),(1,[4])]),(102,13,[(0,[0,2]),(1,[2,3]),(2,[2])]),(111,34,[(0,[0,1,2,4]),(1,[0,1,2,4,13,14]),(2,[0,1,2,4,13,14,15]),(3,[0,1,2,4,6,13,14]),(4,[0,1,2,4,7,13,14]),(5,[0,1,2,4,13,14,32]),(6,[0,1,2,4,13,14])])]
def ZH:ax:=bO Pz K29 [(32,V6),(49,G49),(98,VI)] [] []
theorem Ui:aV ZH:=ak aj ⟨s32,s49,Xb,trivial⟩ trivial trivial
def Rm (p1:L') (p2:L') (p3:L') (p4:L') (p5:Pos) (p6:Mv) (p7:L') (p8:Pos) (p9:Mv) (x:(Int)):St:=St.mk (.yield 0::.ptr 4 0::.ptr 5 0::.any::.str p1::(an 8 (.agg [.str (ByteArray.mk #[]).data.toList,.str p2,.str p3,.str p4]::.int .i64 x::(an 19 [])))) (Hp.mk [(pc p5 []),[.int .i8 p6.aw,.int .i8 p6.to,.int .u8 p6.aM,.int .u8 p6.aD,.bool p6.bq],[.str p7],[.bool false],(pc p8 []),[.int .i8 p9.aw,.int .i8 p9.to,.int .u8 p9.aM,.int .u8 p9.aD,.bool p9.bq]] [] [dh.mk 0 none 29 (an 5 (.ptr 2 0::.ptr 3 0::(an 3 (.func 111 [] [.ptr 4 0,.ptr 5 0]::(an 4 []))))) [11] (nE Pz 29 3) (nL Pz 29 3)] 0 0 0)
def PV (p1:L') (p2:L') (p3:L') (p4:L') (p5:Pos) (p6:Mv) (p7:L') (p8:Pos) (p9:Mv):(Int) ⊕ (Int×Bool)→Out
 | (.inl (y))=>.ret (St.mk (AV.yield 0::AV.ptr 4 0::AV.ptr 5 0::AV.any::AV.str p1::(an 8 (AV.agg [AV.str (ByteArray.mk #[]).data.toList,AV.str p2,AV.str p3,AV.str p4]::AV.int .i64 y::(an 17 [AV.aP true,AV.any])))) (Hp.mk [(pc p5 []),[AV.int .i8 p6.aw,AV.int .i8 p6.to,AV.int .u8 p6.aM,AV.int .u8 p6.aD,AV.bool p6.bq],[AV.str p7],[AV.bool true],(pc p8 []),[AV.int .i8 p9.aw,AV.int .i8 p9.to,AV.int .u8 p9.aM,AV.int .u8 p9.aD,AV.bool p9.bq]] [] [dh.mk 2 (some Code.ret) 29 (an 5 (AV.ptr 2 0::AV.ptr 3 0::(an 3 (AV.func 111 [] [AV.ptr 4 0,AV.ptr 5 0]::(an 4 []))))) [11] (nE Pz 29 3) (nL Pz 29 3)] 0 0 0))
 | (.inr (y))=>.exit 0 (St.mk (AV.yield 0::AV.ptr 4 0::AV.ptr 5 0::AV.any::AV.str p1::(an 8 (AV.agg [AV.str (ByteArray.mk #[]).data.toList,AV.str p2,AV.str p3,AV.str p4]::AV.int .i64 y.1::AV.bool y.2::(an 18 [])))) (Hp.mk [(pc p5 []),[AV.int .i8 p6.aw,AV.int .i8 p6.to,AV.int .u8 p6.aM,AV.int .u8 p6.aD,AV.bool p6.bq],[AV.str p7],[AV.bool false],(pc p8 []),[AV.int .i8 p9.aw,AV.int .i8 p9.to,AV.int .u8 p9.aM,AV.int .u8 p9.aD,AV.bool p9.bq]] [] [dh.mk 0 none 29 (an 5 (AV.ptr 2 0::AV.ptr 3 0::(an 3 (AV.func 111 [] [AV.ptr 4 0,AV.ptr 5 0]::(an 4 []))))) [11] (nE Pz 29 3) (nL Pz 29 3)] 0 0 0))
def Hd (p1:L') (p2:L') (p3:L') (p4:L') (p5:Pos) (p6:Mv) (p7:L') (p8:Pos) (p9:Mv) (x:(Int)):aF (Int) ((Int) ⊕ (Int×Bool)):=(bif decide (x<4) then (bif x==Int.ofNat 0 then (bif mF p8 p9 (ByteArray.mk #[]).data.toList==p7 then (aF.out (.inl ((x)))) else (bif mF p8 p9 (ByteArray.mk #[]).data.toList++p1==p7 then (aF.out (.inl ((x)))) else (aF.go (wr .i64 (x+1))))) else (bif x==Int.ofNat 1 then (bif mF p8 p9 p2==p7 then (aF.out (.inl ((x)))) else (bif mF p8 p9 p2++p1==p7 then (aF.out (.inl ((x)))) else (aF.go (wr .i64 (x+1))))) else (bif x==Int.ofNat 2 then (bif mF p8 p9 p3==p7 then (aF.out (.inl ((x)))) else (bif mF p8 p9 p3++p1==p7 then (aF.out (.inl ((x)))) else (aF.go (wr .i64 (x+1))))) else (bif mF p8 p9 p4==p7 then (aF.out (.inl ((x)))) else (bif mF p8 p9 p4++p1==p7 then (aF.out (.inl ((x)))) else (aF.go (wr .i64 (x+1)))))))) else (aF.out (.inr ((x,decide (x<4))))))
def CO (p1:L') (p2:L') (p3:L') (p4:L') (p5:Pos) (p6:Mv) (p7:L') (p8:Pos) (p9:Mv) (x:(Int)):Bool:=(bif decide (x<4) then (decide (0≤x)&&decide (x<Int.ofNat 4)&&(bif x==Int.ofNat 0 then (oX p8 p9 (ByteArray.mk #[]).data.toList&&(bif mF p8 p9 (ByteArray.mk #[]).data.toList==p7 then true else (decide ((mF p8 p9 (ByteArray.mk #[]).data.toList).length+p1.length≤1073741824)&&true))) else (bif x==Int.ofNat 1 then (oX p8 p9 p2&&(bif mF p8 p9 p2==p7 then true else (decide ((mF p8 p9 p2).length+p1.length≤1073741824)&&true))) else (bif x==Int.ofNat 2 then (oX p8 p9 p3&&(bif mF p8 p9 p3==p7 then true else (decide ((mF p8 p9 p3).length+p1.length≤1073741824)&&true))) else (x==Int.ofNat 3&&(oX p8 p9 p4&&(bif mF p8 p9 p4==p7 then true else (decide ((mF p8 p9 p4).length+p1.length≤1073741824)&&true)))))))) else true)
def pT (p1:L') (p2:L') (p3:L') (p4:L') (p5:Pos) (p6:Mv) (p7:L') (p8:Pos) (p9:Mv) (x:(Int)):Option ((Int) ⊕ (Int×Bool)):=cP (fun x=>bif CO p1 p2 p3 p4 p5 p6 p7 p8 p9 x then Hd p1 p2 p3 p4 p5 p6 p7 p8 p9 x else .bad) many x
abbrev QV {α:Type} (k:L'→L'→L'→L'→Pos→Mv→L'→Pos→Mv→(Int)→α) (s:St):α:=wP s 0 fun q0=>wP s 4 fun q4=>wM s 1 fun q1=>wM s 5 fun q5=>k (tS (tT s 4)) (tS (tX (tA (tT s 13)) 1)) (tS (tX (tA (tT s 13)) 2)) (tS (tX (tA (tT s 13)) 3)) q0 q1 (tS (tH s 2 0)) q4 q5 ((tI (tT s 14)))
theorem Z2 (p1:L') (p2:L') (p3:L') (p4:L') (p5:Pos) (p6:Mv) (p7:L') (p8:Pos) (p9:Mv) (x:(Int)) (r:(Int) ⊕ (Int×Bool)) (h:pT p1 p2 p3 p4 p5 p6 p7 p8 p9 x=some r):aB Pz (bj Pz 111 2) (Rm p1 p2 p3 p4 p5 p6 p7 p8 p9 x) (PV p1 p2 p3 p4 p5 p6 p7 p8 p9 r):=aB.vF (m:=12) (fn:=111) Ui (QV fun _ _ _ _ _ _ _ _ _ x=>some x) (fun o=>match o with | .ret s=>some (.inl (tI (tT s 14))) | .exit 0 s=>some (.inr ((tI (tT s 14)),(tB (tT s 15)))) | _=>none) (fun r=>by cases r<;>rfl) (fun _=>by kernel_rfl) (fun _=>by kernel_rfl) (fun _=>by kernel_rfl) (fun _=>by kernel_rfl) many x r h
def Pr (b:Code) (s:St):Tr Out:=QV (fun p1 p2 p3 p4 p5 p6 p7 p8 p9 x=>vM b (bj Pz 111 2) s (Rm p1 p2 p3 p4 p5 p6 p7 p8 p9 x) (pT p1 p2 p3 p4 p5 p6 p7 p8 p9 x) (PV p1 p2 p3 p4 p5 p6 p7 p8 p9)) s
theorem UH:∀ b,aY Pz b (Pr b):=fun _ _ _ h=>dq (Z2 _ _ _ _ _ _ _ _ _ _) h
def B29:ax:=bO Pz K29 [(32,V6),(49,G49),(98,VI)] [(111,2,Pr)] []
theorem aeA:aV B29:=ak aj ⟨s32,s49,Xb,trivial⟩ ⟨UH,trivial⟩ trivial
def Vx (a:Pos) (b:Mv) (c:L'):Bool:=(bif cq ((pT (nG a b) (List.drop 0 (List.take 1 (bD (wr .i64 b.aw)))) (List.drop 1 (List.take (bD (wr .i64 b.aw)).length (bD (wr .i64 b.aw)))) (bD (wr .i64 b.aw)) a b c a b 0).getD default) then (true) else (false))
def JF (a:Pos) (b:Mv) (c:L'):Bool:=(A0 a b&&(mI (wr .i64 b.aw)&&(decide (0≤1)&&decide (1≤Int.ofNat (bD (wr .i64 b.aw)).length)&&(decide (0≤1)&&decide (1≤Int.ofNat (bD (wr .i64 b.aw)).length)&&((pT (nG a b) (List.drop 0 (List.take 1 (bD (wr .i64 b.aw)))) (List.drop 1 (List.take (bD (wr .i64 b.aw)).length (bD (wr .i64 b.aw)))) (bD (wr .i64 b.aw)) a b c a b 0).isSome&&bif cq ((pT (nG a b) (List.drop 0 (List.take 1 (bD (wr .i64 b.aw)))) (List.drop 1 (List.take (bD (wr .i64 b.aw)).length (bD (wr .i64 b.aw)))) (bD (wr .i64 b.aw)) a b c a b 0).getD default) then true else true)))))
theorem P29 (a:Pos) (b:Mv) (c:L') (h:JF a b c=true):PS Pz 29 [Pos.av a,Mv.av b,.str c] (dB.res (Vx a b c)):=pq14 aeA h
def G29:GT:=g3 aZ jl dS (fun a b c=>bV (JF a b c) (dB.res (Vx a b c)))
theorem s29:Sound Pz 29 G29:=cw fun a b c=>az (P29 a b c)
def K13:KT:=[(13,40,[(0,[1,2,4]),(1,[1,2,4,11]),(2,[4,5]),(3,[1,2,4,6]),(4,[1,2,4,6,14,15,16]),(5,(1::2::4::6::(rn 14 4 []))),(6,[1,2,4,6,8,14,15,16]),(7,[1,2,4,6,8,14,15,16,23]),(8,[1,2,4,6,14,15,16]),(9,[1,2,4,6,14,15,16]),(10,[4,6,30]),(11,[4,6,30,31]),(12,[4,5]),(13,[4,6,34]),(14,[4,5]),(15,[4,5])])]
def X0:ax:=bO Pz K13 [(20,Qg),(29,G29)] [] []
theorem Td:aV X0:=ak aj ⟨UM,s29,trivial⟩ trivial trivial
def PF (p1:L') (p2:M') (p3:Int) (p4:Pos) (x:(M'×Int)):St:=St.mk (.any::.str p1::.ptr 0 0::.any::.ptr 1 0::.any::.list .mv x.1 (.own 0)::(an 7 (.list .mv p2 .fresh::.int .i64 p3::.int .i64 x.2::(an 23 [])))) (Hp.mk [(pc p4 []),[.int .i8 0,.int .i8 0,.int .u8 0,.int .u8 0,.bool false]] [x.1.length] [] 0 0 0)
def QH (p1:L') (p2:M') (p3:Int) (p4:Pos):(M'×Int×Bool)→Out:=fun y=>.exit 0 (St.mk (.any::.str p1::.ptr 0 0::.any::.ptr 1 0::.any::.list .mv y.1 (.own 0)::(an 7 (.list .mv p2 .fresh::.int .i64 p3::.int .i64 y.2.1::.bool y.2.2::(an 22 [])))) (Hp.mk [(pc p4 []),[.int .i8 0,.int .i8 0,.int .u8 0,.int .u8 0,.bool false]] [y.1.length] [] 0 0 0))
def H4 (p1:L') (p2:M') (p3:Int) (p4:Pos) (x:(M'×Int)):aF (M'×Int) ((M'×Int×Bool)):=(bif decide (x.2<p3) then (bif Vx p4 (p2.getD x.2.toNat default) p1 then (aF.go (x.1++[p2.getD x.2.toNat default],wr .i64 (x.2+1))) else (aF.go (x.1,wr .i64 (x.2+1)))) else (aF.out ((x.1,x.2,decide (x.2<p3)))))
def Dw (p1:L') (p2:M') (p3:Int) (p4:Pos) (x:(M'×Int)):Bool:=(bif decide (x.2<p3) then (decide (0≤x.2)&&decide (x.2<Int.ofNat p2.length)&&(JF p4 (p2.getD x.2.toNat default) p1&&(bif Vx p4 (p2.getD x.2.toNat default) p1 then (x.1.length==x.1.length&&decide (x.1.length+1≤1073741824)&&true) else true))) else true)
def fH (p1:L') (p2:M') (p3:Int) (p4:Pos) (x:(M'×Int)):Option ((M'×Int×Bool)):=cP (fun x=>bif Dw p1 p2 p3 p4 x then H4 p1 p2 p3 p4 x else .bad) many x
abbrev Qa {α:Type} (k:L'→M'→Int→Pos→(M'×Int)→α) (s:St):α:=wP s 0 fun q0=>k (tS (tT s 1)) (tL (ET.mv) (tT s 14)) (tI (tT s 15)) q0 ((tL (ET.mv) (tT s 6)),(tI (tT s 16)))
theorem YH (p1:L') (p2:M') (p3:Int) (p4:Pos) (x:(M'×Int)) (r:(M'×Int×Bool)) (h:fH p1 p2 p3 p4 x=some r):aB Pz (bj Pz 13 5) (PF p1 p2 p3 p4 x) (QH p1 p2 p3 p4 r):=smq (m:=12) (fn:=13) Td (Qa fun _ _ _ _ x=>some x) (fun o=>match o with | .exit 0 s=>some ((tL ET.mv (tT s 6)),(tI (tT s 16)),(tB (tT s 17))) | _=>none) many x r h
def QX (b:Code) (s:St):Tr Out:=Qa (fun p1 p2 p3 p4 x=>lO b (bj Pz 13 5) s (PF p1 p2 p3 p4 x) (fH p1 p2 p3 p4 x) (QH p1 p2 p3 p4)) s
theorem Vq:∀ b,aY Pz b (QX b):=fun _ _ _ h=>bS (YH _ _ _ _ _) h
def B13:ax:=bO Pz K13 [(20,Qg),(29,G29)] [(13,5,QX)] []
theorem aix:aV B13:=ak aj ⟨UM,s29,trivial⟩ ⟨Vq,trivial⟩ trivial
def Hb (a:Pos) (b:L'):(Mv×Int):=(bif decide (Int.ofNat b.length>20) then (⟨(0),(0),(0),(0),(false)⟩,(3)) else (bif Int.ofNat ((fH b (bN a) (Int.ofNat (bN a).length) a ([],0)).getD default).1.length==0 then (⟨(0),(0),(0),(0),(false)⟩,(5)) else (bif Int.ofNat ((fH b (bN a) (Int.ofNat (bN a).length) a ([],0)).getD default).1.length==1 then (⟨((((fH b (bN a) (Int.ofNat (bN a).length) a ([],0)).getD default).1.getD 0 default).aw),((((fH b (bN a) (Int.ofNat (bN a).length) a ([],0)).getD default).1.getD 0 default).to),((((fH b (bN a) (Int.ofNat (bN a).length) a ([],0)).getD default).1.getD 0 default).aM),((((fH b (bN a) (Int.ofNat (bN a).length) a ([],0)).getD default).1.getD 0 default).aD),((((fH b (bN a) (Int.ofNat (bN a).length) a ([],0)).getD default).1.getD 0 default).bq)⟩,(0)) else (⟨(0),(0),(0),(0),(false)⟩,(230)))))
def Ic (a:Pos) (b:L'):Bool:=(bif decide (Int.ofNat b.length>20) then true else (Am a&&((fH b (bN a) (Int.ofNat (bN a).length) a ([],0)).isSome&&(bif Int.ofNat ((fH b (bN a) (Int.ofNat (bN a).length) a ([],0)).getD default).1.length==0 then true else (bif Int.ofNat ((fH b (bN a) (Int.ofNat (bN a).length) a ([],0)).getD default).1.length==1 then (decide (0≤0)&&decide (0<Int.ofNat ((fH b (bN a) (Int.ofNat (bN a).length) a ([],0)).getD default).1.length)&&true) else true)))))
theorem P13 (a:Pos) (b:L') (h:Ic a b=true):PS Pz 13 [Pos.av a,.str b] ((d2 jl (dI .i64)).res (Hb a b)):=pq14 aix h
def G13:GT:=g2 aZ dS (fun a b=>bV (Ic a b) ((d2 jl (dI .i64)).res (Hb a b)))
theorem s13:Sound Pz 13 G13:=aW fun a b=>az (P13 a b)
end Kz
end
noncomputable section
namespace Kz
open Go Go.RowKit Go.Proofs
set_option maxRecDepth 100000
variable {p:Pos} {m:Mv} {t:L'}
def wh (m:Mv) (j:Int):L':=bif j==0 then [] else bif j==1 then List.drop 0 (List.take 1 (bD (wr .i64 m.aw))) else bif j==2 then List.drop 1 (List.take (bD (wr .i64 m.aw)).length (bD (wr .i64 m.aw))) else bD (wr .i64 m.aw)
theorem A7 (hm:oV m) (j:Int):(wh m j).length≤2:=by
 have s4:=(uM hm.f0 hm.f1).2
 have e4:(bD (wr .i64 m.aw)).length=2:=by rw [s4];rfl
 unfold wh
 generalize bD (wr .i64 m.aw)=F at e4
 cases (j==0)<;>cases (j==1)<;>cases (j==2)<;>simp<;>omega
def fm (p:Pos) (m:Mv) (t:L') (j:Int):Bool:=b9 p m (wh m j)==t || (b9 p m (wh m j)++nG p m==t)
def bC (p:Pos) (m:Mv) (t:L'):Bool:=fm p m t 0 || (fm p m t 1 || (fm p m t 2 || fm p m t 3))
theorem Nq (hp:aG p) (hm:oV m) (h76:m∈cy p):∃ r,pT (nG p m) (List.drop 0 (List.take 1 (bD (wr .i64 m.aw)))) (List.drop 1 (List.take (bD (wr .i64 m.aw)).length (bD (wr .i64 m.aw)))) (bD (wr .i64 m.aw)) p m t p m 0=some r∧cq r=bC p m t:=by
 refine ba (I:=fun x:Int=>0≤x∧x≤4∧∀ j:Int,0≤j→j<x→fm p m t j=false) (μ:=fun x=>(4-x).toNat) ?_ _ ⟨Int.le_refl _,by decide,fun j a b=>by omega⟩ (by decide)
 rintro x ⟨x0,x4,hx⟩
 have mk:=(pK hp h76).2
 have ml:(nG p m).length≤1:=by rcases mk with e | e | e<;>rw [e]<;>decide
 have key:∀ j:Int,oX p m (wh m j)=true∧decide ((mF p m (wh m j)).length+(nG p m).length≤1073741824)=true:=fun j=>by
  refine ⟨Ka hp hm (A7 hm j),?_⟩
  obtain ⟨h,z,e,_,e2,_⟩:=ma hp hm (A7 hm j)
  rw [Cg,e]
  exact decide_eq_true (by simp;omega)
 have st:∀ j:Int,0≤j→j<4→x=j→rR (fun x:Int=>0≤x∧x≤4∧∀ j:Int,0≤j→j<x→fm p m t j=false) (fun r:Int ⊕ (Int×Bool)=>cq r=bC p m t) (fun x=>(4-x).toNat) (4-x).toNat (bif mF p m (wh m j)==t then .out (.inl j) else bif mF p m (wh m j)++nG p m==t then .out (.inl j) else .go (wr .i64 (j+1))):=by
  intro j j0 j4 hj
  subst hj
  rw [Cg]
  have yes:fm p m t x=true→bC p m t=true:=fun h=>by
   unfold bC
   rcases (show x=0∨x=1∨x=2∨x=3 by omega) with rfl | rfl | rfl | rfl<;>rw [h]<;>simp
  cases h1:(b9 p m (wh m x)==t) with
  | true=>exact (yes (by unfold fm;rw [h1];rfl)).symm
  | false =>
   cases h2:(b9 p m (wh m x)++nG p m==t) with
   | true=>exact (yes (by unfold fm;rw [h1,h2];rfl)).symm
   | false =>
    rw [aI (by omega) (by omega)]
    refine ⟨⟨by omega,by omega,fun j a b=>?_⟩,show (4-(x+1)).toNat<(4-x).toNat by omega⟩
    by_cases h:j=x
    ·subst h;unfold fm;rw [h1,h2];rfl
    ·exact hx j a (by omega)
 unfold CO Hd
 by_cases h4:x<4
 ·rcases (show x=0∨x=1∨x=2∨x=3 by omega) with rfl | rfl | rfl | rfl
  ·obtain ⟨k1,k2⟩:=key 0
   change oX p m (ByteArray.mk #[]).data.toList=true at k1
   change decide ((mF p m (ByteArray.mk #[]).data.toList).length+_≤_)=true at k2
   rw [k1,k2]
   exact ⟨by cases (mF p m (ByteArray.mk #[]).data.toList==t)<;>rfl,st 0 (by decide) (by decide) rfl⟩
  ·obtain ⟨k1,k2⟩:=key 1
   change oX p m (List.drop 0 (List.take 1 (bD (wr .i64 m.aw))))=true at k1
   change decide ((mF p m (List.drop 0 (List.take 1 (bD (wr .i64 m.aw))))).length+_≤_)=true at k2
   rw [k1,k2]
   exact ⟨by cases (mF p m (List.drop 0 (List.take 1 (bD (wr .i64 m.aw))))==t)<;>rfl,st 1 (by decide) (by decide) rfl⟩
  ·obtain ⟨k1,k2⟩:=key 2
   change oX p m (List.drop 1 (List.take (bD (wr .i64 m.aw)).length (bD (wr .i64 m.aw))))=true at k1
   change decide ((mF p m (List.drop 1 (List.take (bD (wr .i64 m.aw)).length (bD (wr .i64 m.aw))))).length+_≤_)=true at k2
   rw [k1,k2]
   exact ⟨by cases (mF p m (List.drop 1 (List.take (bD (wr .i64 m.aw)).length (bD (wr .i64 m.aw))))==t)<;>rfl,st 2 (by decide) (by decide) rfl⟩
  ·obtain ⟨k1,k2⟩:=key 3
   change oX p m (bD (wr .i64 m.aw))=true at k1
   change decide ((mF p m (bD (wr .i64 m.aw))).length+_≤_)=true at k2
   rw [k1,k2]
   exact ⟨by cases (mF p m (bD (wr .i64 m.aw))==t)<;>rfl,st 3 (by decide) (by decide) rfl⟩
 ·obtain rfl:x=4:=by omega
  refine ⟨rfl,?_⟩
  show false=bC p m t
  unfold bC
  rw [hx 0 (by decide) (by decide),hx 1 (by decide) (by decide),hx 2 (by decide) (by decide),hx 3 (by decide) (by decide)]
  rfl
theorem YC (hp:aG p) (hm:m∈bN p) (t:L'):JF p m t=true∧Vx p m t=bC p m t:=by
 obtain ⟨a,_,b⟩:=fC hp hm
 obtain ⟨s3,s4⟩:=uM a.f0 a.f1
 have e5:decide (1≤Int.ofNat (bD (wr .i64 m.aw)).length)=true:=by rw [s4];rfl
 obtain ⟨r,e,h⟩:=Nq (t:=t) hp a b
 unfold JF Vx
 rw [(pK hp b).1,s3,e5,e]
 refine ⟨by cases cq ((some r).getD default)<;>rfl,?_⟩
 rw [← h]
 show (bif cq r then true else false)=cq r
 cases cq r<;>rfl
def told:List Mv→Mv×Int
 | []=>(⟨0,0,0,0,false⟩,5)
 | [m]=>(m,0)
 | _=>(⟨0,0,0,0,false⟩,230)
theorem Oq (hp:aG p) (t:L'):∃ r,fH t (bN p) (Int.ofNat (bN p).length) p ([],0)=some r∧r.1=(bN p).filter (bC p · t):=by
 have hl:=gU hp
 refine ba (I:=fun x:List Mv×Int=>0≤x.2∧x.2≤((bN p).length:Int)∧x.1=((bN p).take x.2.toNat).filter (bC p · t)) (μ:=fun x=>(((bN p).length:Int)-x.2).toNat) ?_ _ ⟨Int.le_refl _,by dsimp only;omega,rfl⟩ (by dsimp only;omega)
 rintro ⟨o,i⟩ ⟨i0,i1,ho⟩
 dsimp only at i0 i1 ho
 unfold Dw H4
 dsimp only
 by_cases hi:i<Int.ofNat (bN p).length
 ·have hi':i<((bN p).length:Int):=hi
  have hmem:=ct (l:=bN p) (i:=i.toNat) (d:=default) (by omega)
  obtain ⟨k1,k2⟩:=YC hp hmem t
  have ol:o.length≤20802:=by
   rw [ho]
   have:=List.length_filter_le (bC p · t) ((bN p).take i.toNat)
   have h2:=List.length_take_le i.toNat (bN p)
   have h3:((bN p).take i.toNat).length≤(bN p).length:=by rw [List.length_take];omega
   omega
  have step:((bN p).take (i+1).toNat).filter (bC p · t)=o++(bif bC p ((bN p).getD i.toNat default) t then [(bN p).getD i.toNat default] else []):=by
   rw [show (i+1).toNat=i.toNat+1 by omega,List.take_add_one,List.filter_append,← ho]
   congr 1
   rw [List.getD_eq_getElem?_getD]
   rw [List.getElem?_eq_getElem (show i.toNat<(bN p).length by omega)]
   show List.filter (bC p · t) [(bN p)[i.toNat]]=_
   rw [List.filter_cons]
   show (if bC p (bN p)[i.toNat] t=true then _ else _)=(bif bC p (bN p)[i.toNat] t then _ else _)
   cases bC p (bN p)[i.toNat] t<;>rfl
  rw [decide_eq_true hi,decide_eq_true i0,k1,k2,aI (by omega) (by omega),decide_eq_true (show o.length+1≤1073741824 by omega),beq_self_eq_true]
  refine ⟨by cases bC p ((bN p).getD i.toNat default) t<;>rfl,?_⟩
  rw [cond_true]
  cases hf:bC p ((bN p).getD i.toNat default) t with
  | true =>
   rw [hf] at step
   exact ⟨⟨by dsimp only;omega,by dsimp only;omega,step.symm⟩,by dsimp only;omega⟩
  | false =>
   rw [hf] at step
   exact ⟨⟨by dsimp only;omega,by dsimp only;omega,by dsimp only;rw [step];simp⟩,by dsimp only;omega⟩
 ·have hi':¬ i<((bN p).length:Int):=hi
  rw [decide_eq_false hi]
  refine ⟨rfl,?_⟩
  show o=_
  rw [ho,List.take_of_length_le (by omega)]
theorem Hj (hp:aG p) (t:L'):Ic p t=true∧Hb p t=(bif decide (Int.ofNat t.length>20) then (⟨0,0,0,0,false⟩,3) else told ((bN p).filter (bC p · t))):=by
 obtain ⟨r,e,h⟩:=Oq hp t
 unfold Ic Hb
 rw [e,t20 hp]
 simp only [Option.getD_some,Option.isSome_some,h]
 generalize (bN p).filter (bC p · t)=l
 cases decide (Int.ofNat t.length>20) with
 | true=>exact ⟨rfl,rfl⟩
 | false =>
  match l with
  | []=>exact ⟨rfl,rfl⟩
  | [m]=>exact ⟨rfl,rfl⟩
  | a::b::l =>
   have n0:(Int.ofNat (a::b::l).length==0)=false:=rfl
   have n1:(Int.ofNat (a::b::l).length==1)=false:=by
    rw [beq_eq_false_iff_ne]
    intro e
    have:(a::b::l).length=1:=Int.ofNat.inj e
    simp at this
   rw [n0,n1]
   exact ⟨rfl,rfl⟩
end Kz
end
noncomputable section
namespace Kz
open Go Go.RowKit Go.Proofs
set_option maxRecDepth 100000
set_option maxHeartbeats 4000000
def K30:KT:=[(30,46,[(0,[2,3,4]),(1,[2,3,4,7]),(2,[2,3,4,7,10]),(3,[2,3,4,7]),(4,[2,3,4,7,8]),(5,[2,3,4,7,45]),(6,[6]),(7,[6])])]
def YI:ax:=bO Pz K30 [(26,G26),(28,XY)] [] []
theorem Sq:aV YI:=ak aj ⟨s26,s28,trivial⟩ trivial trivial
def Qb (p1:L') (p2:Pos) (p3:Mv) (x:(Int)):St:=St.mk (.any::.any::.str p1::.ptr 0 0::.ptr 1 0::.any::.any::.int .i64 x::(an 38 [])) (Hp.mk [(pc p2 []),[.int .i8 p3.aw,.int .i8 p3.to,.int .u8 p3.aM,.int .u8 p3.aD,.bool p3.bq]] [] [] 0 0 0)
def Qx (p1:L') (p2:Pos) (p3:Mv):Unit ⊕ (Int×Bool)→Out
 | (.inl (y))=>.ret (St.mk (an 6 (AV.aP true::(an 39 []))) (Hp.mk [(pc p2 []),[AV.int .i8 p3.aw,AV.int .i8 p3.to,AV.int .u8 p3.aM,AV.int .u8 p3.aD,AV.bool p3.bq]] [] [] 0 0 0))
 | (.inr (y))=>.exit 0 (St.mk (AV.any::AV.any::AV.str p1::AV.ptr 0 0::AV.ptr 1 0::AV.any::AV.any::AV.int .i64 y.1::AV.any::AV.any::AV.bool y.2::(an 35 [])) (Hp.mk [(pc p2 []),[AV.int .i8 p3.aw,AV.int .i8 p3.to,AV.int .u8 p3.aM,AV.int .u8 p3.aD,AV.bool p3.bq]] [] [] 0 0 0))
def Hi (p1:L') (p2:Pos) (p3:Mv) (x:(Int)):aF (Int) (Unit ⊕ (Int×Bool)):=(bif decide (x<4) then (bif xK p2 p3 x==p1 then (aF.out (.inl (()))) else (bif Int.ofNat p1.length==wr .i64 (Int.ofNat (xK p2 p3 x).length+1) then (bif List.drop 0 (List.take (Int.ofNat (xK p2 p3 x).length).toNat p1)==xK p2 p3 x then (bif List.drop (Int.ofNat (xK p2 p3 x).length).toNat (List.take p1.length p1)==PG p2 p3 then (aF.out (.inl (()))) else (aF.go (wr .i64 (x+1)))) else (aF.go (wr .i64 (x+1)))) else (aF.go (wr .i64 (x+1))))) else (aF.out (.inr ((x,decide (x<4))))))
def DV (p1:L') (p2:Pos) (p3:Mv) (x:(Int)):Bool:=(bif decide (x<4) then (EZ p2 p3 x&&(bif xK p2 p3 x==p1 then true else (bif Int.ofNat p1.length==wr .i64 (Int.ofNat (xK p2 p3 x).length+1) then (decide (0≤Int.ofNat (xK p2 p3 x).length)&&decide (Int.ofNat (xK p2 p3 x).length≤Int.ofNat p1.length)&&(bif List.drop 0 (List.take (Int.ofNat (xK p2 p3 x).length).toNat p1)==xK p2 p3 x then (decide (0≤Int.ofNat (xK p2 p3 x).length)&&decide (Int.ofNat (xK p2 p3 x).length≤Int.ofNat p1.length)&&(Bn p2 p3&&true)) else true)) else true))) else true)
def px (p1:L') (p2:Pos) (p3:Mv) (x:(Int)):Option (Unit ⊕ (Int×Bool)):=cP (fun x=>bif DV p1 p2 p3 x then Hi p1 p2 p3 x else .bad) many x
abbrev PT {α:Type} (k:L'→Pos→Mv→(Int)→α) (s:St):α:=wP s 0 fun q0=>wM s 1 fun q1=>k (tS (tT s 2)) q0 q1 ((tI (tT s 7)))
theorem ZW (p1:L') (p2:Pos) (p3:Mv) (x:(Int)) (r:Unit ⊕ (Int×Bool)) (h:px p1 p2 p3 x=some r):aB Pz (bj Pz 30 2) (Qb p1 p2 p3 x) (Qx p1 p2 p3 r):=aB.vF (m:=12) (fn:=30) Sq (PT fun _ _ _ x=>some x) (fun o=>match o with | .ret s=>some (.inl ()) | .exit 0 s=>some (.inr ((tI (tT s 7)),(tB (tT s 10)))) | _=>none) (fun r=>by cases r<;>rfl) (fun _=>by kernel_rfl) (fun _=>by kernel_rfl) (fun _=>by kernel_rfl) (fun _=>by kernel_rfl) many x r h
def Q9 (b:Code) (s:St):Tr Out:=PT (fun p1 p2 p3 x=>vM b (bj Pz 30 2) s (Qb p1 p2 p3 x) (px p1 p2 p3 x) (Qx p1 p2 p3)) s
theorem SI:∀ b,aY Pz b (Q9 b):=fun _ _ _ h=>dq (ZW _ _ _ _) h
def B30:ax:=bO Pz K30 [(26,G26),(28,XY)] [(30,2,Q9)] []
theorem ah8:aV B30:=ak aj ⟨s26,s28,trivial⟩ ⟨SI,trivial⟩ trivial
def VG (a:Pos) (b:Mv) (c:L'):Bool:=(bif cq ((px c a b 0).getD default) then (true) else (false))
def Hy (a:Pos) (b:Mv) (c:L'):Bool:=((px c a b 0).isSome&&bif cq ((px c a b 0).getD default) then true else true)
theorem P30 (a:Pos) (b:Mv) (c:L') (h:Hy a b c=true):PS Pz 30 [Pos.av a,Mv.av b,.str c] (dB.res (VG a b c)):=pq14 ah8 h
def G30:GT:=g3 aZ jl dS (fun a b c=>bV (Hy a b c) (dB.res (VG a b c)))
theorem s30:Sound Pz 30 G30:=cw fun a b c=>az (P30 a b c)
def K14:KT:=[(14,42,[(0,[1,2,4]),(1,[1,2,4,12]),(2,[4,5]),(3,[1,2,4,6]),(4,[1,2,4,6,7]),(5,[1,2,4,6,7,8]),(6,(1::2::4::(rn 6 4 []))),(7,(1::2::4::(rn 6 4 [19]))),(8,(1::2::4::(rn 6 4 []))),(9,(1::2::4::(rn 6 4 [28]))),(10,(1::2::4::(rn 6 4 []))),(11,(1::2::4::(rn 6 4 []))),(12,[4,6,7,36]),(13,[4,5]),(14,[4,6,39]),(15,[4,5]),(16,[4,5])])]
def Xy:ax:=bO Pz K14 [(10,Tl),(30,G30)] [] []
theorem SO:aV Xy:=ak aj ⟨Vy,s30,trivial⟩ trivial trivial
def PB (p1:L') (p2:M') (p3:Pos) (x:(Int×Int×Mv)):St:=St.mk (.any::.str p1::.ptr 0 0::.any::.ptr 1 0::.any::.ptr 2 0::.int .i64 x.1::.list .mv p2 .fresh::.int .i64 x.2.1::(an 32 [])) (Hp.mk [(pc p3 []),[.int .i8 0,.int .i8 0,.int .u8 0,.int .u8 0,.bool false],[.int .i8 x.2.2.aw,.int .i8 x.2.2.to,.int .u8 x.2.2.aM,.int .u8 x.2.2.aD,.bool x.2.2.bq]] [] [] 0 0 0)
def P1 (p1:L') (p2:M') (p3:Pos):(Int×Int×Bool×Mv)→Out:=fun y=>.exit 0 (St.mk (.any::.str p1::.ptr 0 0::.any::.ptr 1 0::.any::.ptr 2 0::.int .i64 y.1::.list .mv p2 .fresh::.int .i64 y.2.1::(an 9 (.bool y.2.2.1::(an 22 [])))) (Hp.mk [(pc p3 []),[.int .i8 0,.int .i8 0,.int .u8 0,.int .u8 0,.bool false],[.int .i8 y.2.2.2.aw,.int .i8 y.2.2.2.to,.int .u8 y.2.2.2.aM,.int .u8 y.2.2.2.aD,.bool y.2.2.2.bq]] [] [] 0 0 0))
def JX (p1:L') (p2:M') (p3:Pos) (x:(Int×Int×Mv)):aF (Int×Int×Mv) ((Int×Int×Bool×Mv)):=(bif decide (x.2.1<Int.ofNat p2.length) then (bif VG p3 (p2.getD x.2.1.toNat default) p1 then (aF.go (wr .i64 (x.1+1),wr .i64 (x.2.1+1),p2.getD x.2.1.toNat default)) else (aF.go (x.1,wr .i64 (x.2.1+1),x.2.2))) else (aF.out ((x.1,x.2.1,decide (x.2.1<Int.ofNat p2.length),x.2.2))))
def El (p1:L') (p2:M') (p3:Pos) (x:(Int×Int×Mv)):Bool:=(bif decide (x.2.1<Int.ofNat p2.length) then (decide (0≤x.2.1)&&decide (x.2.1<Int.ofNat p2.length)&&(Hy p3 (p2.getD x.2.1.toNat default) p1&&(bif VG p3 (p2.getD x.2.1.toNat default) p1 then (decide (0≤x.2.1)&&decide (x.2.1<Int.ofNat p2.length)&&true) else true))) else true)
def ir (p1:L') (p2:M') (p3:Pos) (x:(Int×Int×Mv)):Option ((Int×Int×Bool×Mv)):=cP (fun x=>bif El p1 p2 p3 x then JX p1 p2 p3 x else .bad) many x
abbrev Ri {α:Type} (k:L'→M'→Pos→(Int×Int×Mv)→α) (s:St):α:=wP s 0 fun q0=>wM s 2 fun q2=>k (tS (tT s 1)) (tL (ET.mv) (tT s 8)) q0 ((tI (tT s 7)),(tI (tT s 9)),q2)
theorem Yt (p1:L') (p2:M') (p3:Pos) (x:(Int×Int×Mv)) (r:(Int×Int×Bool×Mv)) (h:ir p1 p2 p3 x=some r):aB Pz (bj Pz 14 7) (PB p1 p2 p3 x) (P1 p1 p2 p3 r):=smq (m:=12) (fn:=14) SO (Ri fun _ _ _ x=>some x) (fun o=>match o with | .exit 0 s=>wM s 2 fun q2=>some ((tI (tT s 7)),(tI (tT s 9)),(tB (tT s 19)),q2) | _=>none) many x r h
def Pt (b:Code) (s:St):Tr Out:=Ri (fun p1 p2 p3 x=>lO b (bj Pz 14 7) s (PB p1 p2 p3 x) (ir p1 p2 p3 x) (P1 p1 p2 p3)) s
theorem R4:∀ b,aY Pz b (Pt b):=fun _ _ _ h=>bS (Yt _ _ _ _) h
def B14:ax:=bO Pz K14 [(10,Tl),(30,G30)] [(14,7,Pt)] []
theorem acB:aV B14:=ak aj ⟨Vy,s30,trivial⟩ ⟨R4,trivial⟩ trivial
def LX (a:Pos) (b:L'):(Mv×Int):=(bif decide (Int.ofNat b.length>20) then (⟨(0),(0),(0),(0),(false)⟩,(3)) else (bif ((ir b (eG a) a (0,0,Mv.mk 0 0 0 0 false)).getD default).1==0 then (⟨(0),(0),(0),(0),(false)⟩,(5)) else (bif decide (((ir b (eG a) a (0,0,Mv.mk 0 0 0 0 false)).getD default).1>1) then (⟨(0),(0),(0),(0),(false)⟩,(230)) else (⟨(((ir b (eG a) a (0,0,Mv.mk 0 0 0 0 false)).getD default).2.2.2.aw),(((ir b (eG a) a (0,0,Mv.mk 0 0 0 0 false)).getD default).2.2.2.to),(((ir b (eG a) a (0,0,Mv.mk 0 0 0 0 false)).getD default).2.2.2.aM),(((ir b (eG a) a (0,0,Mv.mk 0 0 0 0 false)).getD default).2.2.2.aD),(((ir b (eG a) a (0,0,Mv.mk 0 0 0 0 false)).getD default).2.2.2.bq)⟩,(0)))))
def IX (a:Pos) (b:L'):Bool:=(bif decide (Int.ofNat b.length>20) then true else (uE a&&((ir b (eG a) a (0,0,Mv.mk 0 0 0 0 false)).isSome&&true)))
theorem P14 (a:Pos) (b:L') (h:IX a b=true):PS Pz 14 [Pos.av a,.str b] ((d2 jl (dI .i64)).res (LX a b)):=pq14 acB h
def G14:GT:=g2 aZ dS (fun a b=>bV (IX a b) ((d2 jl (dI .i64)).res (LX a b)))
theorem s14:Sound Pz 14 G14:=aW fun a b=>az (P14 a b)
def K4:KT:=[(4,32,[(0,[1,2]),(1,[1,2,11]),(2,[4]),(3,[1,2,5,6]),(4,[5,6,7,8]),(5,[4])])]
def B4:ax:=bO Pz K4 [(13,G13),(14,G14)] [] []
theorem hB4:aV B4:=ak aj ⟨s13,s14,trivial⟩ trivial trivial
def N4 (a:Pos) (b:L'):Bool:=(bif decide (Int.ofNat b.length>2000) then (true) else (bif bI BinOp.eql ((Hb a b).1.aw==(LX a b).1.aw&&((Hb a b).1.to==(LX a b).1.to&&((Hb a b).1.aM==(LX a b).1.aM&&((Hb a b).1.aD==(LX a b).1.aD&&((Hb a b).1.bq==(LX a b).1.bq&&true))))) then ((Hb a b).2==(LX a b).2) else (false)))
def ok4 (a:Pos) (b:L'):Bool:=(bif decide (Int.ofNat b.length>2000) then true else (Ic a b&&(IX a b&&true)))
theorem P4 (a:Pos) (b:L') (h:ok4 a b=true):PS Pz 4 [Pos.av a,.str b] (dB.res (N4 a b)):=pq14 hB4 h
end Kz
end
noncomputable section
namespace Kz
open Go Go.RowKit Go.Proofs
set_option maxRecDepth 100000
variable {p:Pos} {m:Mv} {t:L'}
theorem Gt (s t e:L') (hs:s.length≤1000) (he:e.length≤1) :
  (bif s==t then true else bif Int.ofNat t.length==wr .i64 (Int.ofNat s.length+1) then (bif List.drop 0 (List.take (Int.ofNat s.length).toNat t)==s then List.drop (Int.ofNat s.length).toNat (List.take t.length t)==e else false) else false)=(s==t || (s++e==t)):=by
 rw [aI (n:=Int.ofNat s.length+1) (by show (-9223372036854775808:Int)≤(s.length:Int)+1;omega) (by show (s.length:Int)+1≤9223372036854775807;omega),List.take_length,List.drop_zero,show (Int.ofNat s.length).toNat=s.length from rfl]
 cases h1:(s==t) with
 | true=>rfl
 | false =>
  rw [cond_false,Bool.false_or]
  cases h2:(s++e==t) with
  | true =>
   rw [beq_iff_eq] at h2
   subst h2
   have e1:e.length=1:=by
    have:e≠[]:=fun h=>by subst h;simp at h1
    cases e with
    | nil=>exact absurd rfl this
    | cons a e=>simp at he ⊢;exact he
   rw [List.take_left,List.drop_left,beq_self_eq_true,beq_self_eq_true,show (Int.ofNat (s++e).length==Int.ofNat s.length+1)=true by rw [beq_iff_eq,List.length_append,e1];rfl]
   rfl
  | false =>
   cases h3:(Int.ofNat t.length==Int.ofNat s.length+1) with
   | false=>rfl
   | true =>
    cases h4:(List.take s.length t==s) with
    | false=>rfl
    | true =>
     rw [cond_true,cond_true]
     rw [beq_eq_false_iff_ne] at h2 ⊢
     intro h5
     rw [beq_iff_eq] at h4
     refine h2 ?_
     rw [← h5]
     conv=>lhs;lhs;rw [← h4]
     exact List.take_append_drop _ _
theorem ah2 (f0:0≤m.aw) (f1:m.aw<64) {x:Int} (x0:0≤x) (x4:x<4):mQ m x=wh m x:=by
 obtain ⟨_,s2⟩:=sqR f0 f1
 unfold mQ wh
 rw [s2]
 rcases (show x=0∨x=1∨x=2∨x=3 by omega) with rfl | rfl | rfl | rfl<;>rfl
theorem XP (hp:aG p) (hm:m∈bN p) (t:L'):Hy p m t=true∧VG p m t=bC p m t:=by
 obtain ⟨a,hth,b⟩:=fC hp hm
 have hl:=gU hp
 obtain ⟨_,c2,_,c4⟩:=LF hp (show (bN p).length≤1000000 by omega) a fun x hx=>(fC hp hx).1
 obtain ⟨e1,e2⟩:=Ia hp hth b
 obtain ⟨_,k4⟩:=pK hp b
 have ml:(nG p m).length≤1:=by rcases k4 with e | e | e<;>rw [e]<;>decide
 obtain ⟨r,e,h⟩:∃ r,px t p m 0=some r∧cq r=bC p m t:=by
  refine ba (I:=fun x:Int=>0≤x∧x≤4∧∀ j:Int,0≤j→j<x→fm p m t j=false) (Q:=fun r:Unit ⊕ (Int×Bool)=>cq r=bC p m t) (μ:=fun x=>(4-x).toNat) ?_ _ ⟨Int.le_refl _,by decide,fun j a b=>by omega⟩ (by decide)
  rintro x ⟨x0,x4,hx⟩
  unfold DV Hi
  by_cases h4:x<4
  ·obtain ⟨d1,d2⟩:=Hu hp a b hth x fun c=>⟨c2 c,c4 c⟩
   rw [ah2 a.f0 a.f1 x0 h4] at d2
   obtain ⟨hh,z,g1,_,g3,_⟩:=ma hp a (A7 a x)
   have fs:=Gt (b9 p m (wh m x)) t (nG p m) (by rw [g1];simp;omega) ml
   rw [show (b9 p m (wh m x)==t || (b9 p m (wh m x)++nG p m==t))=fm p m t x from rfl] at fs
   rw [decide_eq_true h4,d1,d2,e1,e2,aI (n:=x+1) (by omega) (by omega)]
   have yes:fm p m t x=true→bC p m t=true:=fun h=>by
    unfold bC
    rcases (show x=0∨x=1∨x=2∨x=3 by omega) with rfl | rfl | rfl | rfl<;>rw [h]<;>simp
   have no:fm p m t x=false→rR (fun x:Int=>0≤x∧x≤4∧∀ j:Int,0≤j→j<x→fm p m t j=false) (fun r:Unit ⊕ (Int×Bool)=>cq r=bC p m t) (fun x=>(4-x).toNat) ((4-x).toNat) (.go (x+1)):=fun h=>by
    refine ⟨⟨by omega,by omega,fun j a b=>?_⟩,show (4-(x+1)).toNat<(4-x).toNat by omega⟩
    by_cases hj:j=x
    ·subst hj;exact h
    ·exact hx j a (by omega)
   have le:(Int.ofNat t.length==wr .i64 (Int.ofNat (b9 p m (wh m x)).length+1))=true→decide (Int.ofNat (b9 p m (wh m x)).length≤Int.ofNat t.length)=true:=fun h=>by
    have hs:(b9 p m (wh m x)).length≤1000:=by rw [g1];simp;omega
    rw [aI (n:=Int.ofNat (b9 p m (wh m x)).length+1) (by show (-9223372036854775808:Int)≤((b9 p m (wh m x)).length:Int)+1;omega) (by show ((b9 p m (wh m x)).length:Int)+1≤9223372036854775807;omega),beq_iff_eq] at h
    rw [h]
    exact decide_eq_true (by show ((b9 p m (wh m x)).length:Int)≤((b9 p m (wh m x)).length:Int)+1;omega)
   have z0:decide (0≤Int.ofNat (b9 p m (wh m x)).length)=true:=decide_eq_true (Int.natCast_nonneg _)
   rw [z0]
   revert fs le
   generalize (b9 p m (wh m x)==t)=b1
   generalize (Int.ofNat t.length==wr .i64 (Int.ofNat (b9 p m (wh m x)).length+1))=b2
   generalize (List.drop 0 (List.take (Int.ofNat (b9 p m (wh m x)).length).toNat t)==b9 p m (wh m x))=b3
   generalize (List.drop (Int.ofNat (b9 p m (wh m x)).length).toNat (List.take t.length t)==nG p m)=b4
   intro fs le
   cases b1 with
   | true=>exact ⟨rfl,(yes fs.symm).symm⟩
   | false =>
    cases b2 with
    | false=>exact ⟨rfl,no fs.symm⟩
    | true =>
     rw [le rfl]
     cases b3 with
     | false=>exact ⟨rfl,no fs.symm⟩
     | true =>
      cases b4 with
      | false=>exact ⟨rfl,no fs.symm⟩
      | true=>exact ⟨rfl,(yes fs.symm).symm⟩
  ·obtain rfl:x=4:=by omega
   refine ⟨rfl,?_⟩
   show false=bC p m t
   unfold bC
   rw [hx 0 (by decide) (by decide),hx 1 (by decide) (by decide),hx 2 (by decide) (by decide),hx 3 (by decide) (by decide)]
   rfl
 unfold Hy VG
 rw [e]
 simp only [Option.getD_some]
 rw [h]
 refine ⟨?_,?_⟩<;>cases bC p m t<;>rfl
theorem He (hp:aG p) (t:L'):∃ r,ir t (bN p) p (0,0,⟨0,0,0,0,false⟩)=some r∧r.1=(((bN p).filter (bC p · t)).length:Int)∧r.2.2.2=((bN p).filter (bC p · t)).getLastD ⟨0,0,0,0,false⟩:=by
 have hl:=gU hp
 refine ba (I:=fun x:Int×Int×Mv=>0≤x.2.1∧x.2.1≤((bN p).length:Int)∧x.1=((((bN p).take x.2.1.toNat).filter (bC p · t)).length:Int)∧x.2.2=(((bN p).take x.2.1.toNat).filter (bC p · t)).getLastD ⟨0,0,0,0,false⟩)
  (Q:=fun r:Int×Int×Bool×Mv=>r.1=(((bN p).filter (bC p · t)).length:Int)∧r.2.2.2=((bN p).filter (bC p · t)).getLastD ⟨0,0,0,0,false⟩)
  (μ:=fun x=>(((bN p).length:Int)-x.2.1).toNat) ?_ _ ⟨Int.le_refl _,by dsimp only;omega,rfl,rfl⟩ (by dsimp only;omega)
 rintro ⟨n,i,o⟩ ⟨i0,i1,hn,ho⟩
 dsimp only at i0 i1 hn ho
 unfold El JX
 dsimp only
 by_cases hi:i<Int.ofNat (bN p).length
 ·have hi':i<((bN p).length:Int):=hi
  have hmem:=ct (l:=bN p) (i:=i.toNat) (d:=default) (by omega)
  obtain ⟨k1,k2⟩:=XP hp hmem t
  have nl:n≤1000000:=by
   rw [hn]
   have:=List.length_filter_le (bC p · t) ((bN p).take i.toNat)
   have h3:((bN p).take i.toNat).length≤(bN p).length:=by rw [List.length_take];omega
   omega
  have n0:0≤n:=by rw [hn];exact Int.natCast_nonneg _
  have step:((bN p).take (i+1).toNat).filter (bC p · t)=((bN p).take i.toNat).filter (bC p · t)++(bif bC p ((bN p).getD i.toNat default) t then [(bN p).getD i.toNat default] else []):=by
   rw [show (i+1).toNat=i.toNat+1 by omega,List.take_add_one,List.filter_append]
   congr 1
   rw [List.getD_eq_getElem?_getD]
   rw [List.getElem?_eq_getElem (show i.toNat<(bN p).length by omega)]
   show List.filter (bC p · t) [(bN p)[i.toNat]]=_
   rw [List.filter_cons]
   show (if bC p (bN p)[i.toNat] t=true then _ else _)=(bif bC p (bN p)[i.toNat] t then _ else _)
   cases bC p (bN p)[i.toNat] t<;>rfl
  rw [decide_eq_true hi,decide_eq_true i0,k1,k2,aI (n:=i+1) (by omega) (by omega),aI (n:=n+1) (by omega) (by omega)]
  refine ⟨by cases bC p ((bN p).getD i.toNat default) t<;>rfl,?_⟩
  rw [cond_true]
  cases hf:bC p ((bN p).getD i.toNat default) t with
  | true =>
   rw [hf,cond_true] at step
   refine ⟨⟨by dsimp only;omega,by dsimp only;omega,?_,?_⟩,by dsimp only;omega⟩
   ·dsimp only
    rw [step,hn];simp
   ·dsimp only
    rw [step];simp
  | false =>
   rw [hf,cond_false,List.append_nil] at step
   refine ⟨⟨by dsimp only;omega,by dsimp only;omega,?_,?_⟩,by dsimp only;omega⟩
   ·dsimp only
    rw [step,hn]
   ·dsimp only
    rw [step,ho]
 ·have hi':¬ i<((bN p).length:Int):=hi
  rw [decide_eq_false hi]
  refine ⟨rfl,?_⟩
  rw [hn,ho,List.take_of_length_le (by omega)]
  exact ⟨rfl,rfl⟩
theorem Ym (hp:aG p) (t:L'):IX p t=true∧LX p t=Hb p t:=by
 obtain ⟨r,e,h1,h2⟩:=He hp t
 obtain ⟨g1,g2⟩:=ud hp
 rw [(Hj hp t).2]
 unfold IX LX
 rw [g1,g2,e]
 simp only [Option.getD_some,Option.isSome_some,h1,h2]
 generalize (bN p).filter (bC p · t)=l
 cases decide (Int.ofNat t.length>20) with
 | true=>exact ⟨rfl,rfl⟩
 | false =>
  match l with
  | []=>exact ⟨rfl,rfl⟩
  | [m]=>exact ⟨rfl,rfl⟩
  | a::b::l =>
   have n0:(((a::b::l).length:Int)==0)=false:=beq_eq_false_iff_ne.2 (by simp;omega)
   have n1:decide (((a::b::l).length:Int)>1)=true:=decide_eq_true (by simp;omega)
   rw [n0,n1]
   exact ⟨rfl,rfl⟩
theorem M0 (hp:aG p) (t:L'):ok4 p t=true∧N4 p t=true:=by
 obtain ⟨a,_⟩:=Hj hp t
 obtain ⟨b,c⟩:=Ym hp t
 unfold ok4 N4
 rw [a,b,c]
 simp only [beq_self_eq_true]
 cases decide (Int.ofNat t.length>2000)<;>exact ⟨rfl,rfl⟩
end Kz
end
noncomputable section
namespace Kz
open Go Go.RowKit Go.Proofs
set_option maxRecDepth 100000
theorem under9:Tryz.prog.underlying 9=some .string:=by kernel_rfl
theorem str_open {W:World} {r:Reach} {base:Nat} {v:Value} (h:Value.okWide Tryz.prog W r base 9 v):∃ s:L',True∧∀ (g:Gh) (tk:List Nat) (w:World),aQ g tk w (.str s) v:=by
 unfold Value.okWide at h
 rw [under9] at h
 simp only at h
 unfold Cell.okWide at h
 rw [under9] at h
 simp only at h
 unfold Cell.ok at h
 rw [under9] at h
 cases v<;>simp at h
 exact ⟨_,trivial,fun _ _ _=>.str rfl⟩
theorem law4 (p:Pos) (t:L') (hp:aG p) (_:True):bP Pz 4 [Pos.av p,.str t] (.bool true):=by
 have k:=M0 hp t
 have h:=P4 p t k.1
 rw [k.2] at h
 exact h.1
end Kz
namespace Go.Proofs.YtmhlngkbgbenhaaGreatDoor
open Kz Go Go.RowKit Go.WideShapes Go.ChangeShapes Go.ChangeAt Go.Proofs
set_option maxRecDepth 100000
theorem par4:Tryz.f4.params=#[31,9]:=by kernel_rfl
theorem res4:Tryz.f4.resultTypes=#[4]:=by kernel_rfl
theorem rd4:∀ t∈Tryz.f4.params.toList,Tryz.prog.readableRec t=true∧t<Tryz.prog.types.size:=by
 rw [par4]
 have h:([31,9]:List TypeId).all (fun t=>Tryz.prog.readableRec t&&Nat.blt t Tryz.prog.types.size)=true:=by kernel_rfl
 intro t ht
 have:=List.all_eq_true.1 h t ht
 simp only [Bool.and_eq_true,Nat.blt_eq] at this
 exact this
theorem open4 (W:World) (base:Nat) (args:Array Value) (hl:args.size=Tryz.f4.params.size) (hval:∀ (j:Nat) t v,Tryz.f4.params[j]?=some t→args[j]?=some v→Value.okWide Tryz.prog W .any base t v) :
  ∃ xs,(∀ (g:Gh) (tk:List Nat) (w:World),aC g tk w xs args.toList)∧bP Pz 4 xs (.bool true):=by
 rw [par4] at hl
 obtain ⟨l⟩:=args
 obtain ⟨v0,v1,rfl⟩:∃ v0 v1,l=[v0,v1]:=by
  match l,hl with
  | [v0,v1],_=>exact ⟨_,_,rfl⟩
 obtain ⟨p0,h0,r0⟩:=tj (hval 0 31 v0 (by rw [par4];rfl) rfl)
 obtain ⟨p1,h1,r1⟩:=str_open (hval 1 9 v1 (by rw [par4];rfl) rfl)
 exact ⟨[Pos.av p0,.str p1],fun g tk w=>.cons (r0 _ _ _) (.cons (r1 _ _ _) .nil),law4 p0 p1 h0 h1⟩
theorem laid_met4 (os:Os):laidMet Tryz.prog Rows.sanParseRow.laid ((eL os).forCall (fun _ _=>0) ⟨#[],#[eS,.string ByteArray.empty],[]⟩).memory :=
 laidMet_of_run' 12 (by kernel_rfl) (by kernel_rfl)
theorem reads4 (os:Os) {H:Type} (enc:TypeId×Value→H):∃ places,DataW.whole enc Tryz.prog ((eL os).forCall (fun _ _=>0) ⟨#[],#[eS,.string ByteArray.empty],[]⟩).memory Tryz.f4.params.toList Rows.sanParseSpec.vars false (#[eS,.string ByteArray.empty]:Array Value).toList 12=some ([rW,(.lit (.string []))],[],places) :=
 ⟨[],by kernel_rfl⟩
theorem lifted4 (os:Os) (started:os.Started) (H:Type) (enc:TypeId×Value→H) (F:Stop.Interp) :
  ReturnsInHanded {} Tryz.checked os 4 .any ((OpenSpec.ofChange Rows.sanParseSpec).preRow enc Tryz.prog Tryz.f4 Rows.sanParseRow.domain false Rows.sanParseRow.laid) (((OpenSpec.ofChange Rows.sanParseSpec).at F).post enc Tryz.prog Tryz.f4 false true false false):=by
 obtain ⟨places,hx⟩:=reads4 os enc
 refine returnsInHanded_of_row (C:=Tryz.checked) (s:=OpenSpec.ofChange Rows.sanParseSpec) GM started (by kernel_rfl) Tryz.func4
  (witness_row_at (enc:=enc) (C:=Tryz.checked) false (eL os) #[eS,.string ByteArray.empty] rfl (by kernel_rfl) (by kernel_rfl) (by kernel_rfl)
   (OpenSpec.preRow_of_cond 12 hx (by kernel_rfl) (fun k hk=>by cases hk) (by kernel_rfl) (laid_met4 os))) ?_
 intro W base args ds gs before hval hW _ _ _ hL _ _
 exact kU (f:=4) (fn:=Tryz.f4) (s:=Rows.sanParseSpec) res4 rfl rd4 (fun H ds hds=>by
  rw [par4] at hds
  match ds,hds with
  | [d0,d1],_=>rfl) open4 H enc W base args ds gs before hval hW (kP hL)
abbrev oS:=OpenSpec.ofChange Rows.sanParseSpec
abbrev R4:=Rows.sanParseRow
abbrev V4:=Tryz.f4.params.toList++oS.bare.plain.varTypes Pz
theorem a2 {a b:Bool} (h1:a=true) (h2:b=true):(a&&b)=true:=by rw [h1,h2];rfl
theorem j0:(R4.wf (OpenSpec.ofChange oS.bare))=true:=by kernel_rfl
theorem j1:(laidOutB Pz)=true:=by kernel_rfl
theorem j2:(mapsRowed Pz)=true:=by kernel_rfl
theorem j3:(Tryz.f4.params.all (Pz.readableRec ·))=true:=by kernel_rfl
theorem j4:(namedTie Pz R4.named oS.bare.vars)=true:=by kernel_rfl
theorem j5:(R4.stops==[])=true:=by kernel_rfl
theorem j6:(Pz.stops==[])=true:=by kernel_rfl
theorem j7:(R4.knobs==[])=true:=by kernel_rfl
theorem j8:(Pz.stopKnobs==[])=true:=by kernel_rfl
theorem j9:(R4.inPlace==Pz.inPlace 4)=true:=by kernel_rfl
theorem j10:(R4.unfollowed==Pz.unfollowed 4)=true:=by kernel_rfl
theorem j11:(R4.recurses==Pz.recurses 4)=true:=by kernel_rfl
theorem j12:(R4.named==Pz.varsNamed 4)=true:=by kernel_rfl
theorem j13:(R4.maps==V4.any (Pz.mapsRec ·))=true:=by kernel_rfl
theorem j14:(R4.ifaces==V4.any (Pz.ifacesRec ·))=true:=by kernel_rfl
theorem j15:(R4.mapsOut==Pz.mapsAmong Tryz.f4.resultTypes.toList)=true:=by kernel_rfl
theorem j16:(R4.loops==V4.any (Pz.loopsFrom ·))=true:=by kernel_rfl
theorem j17:(R4.wideKeys==(V4++Tryz.f4.resultTypes.toList).any (Pz.wideKeysFrom ·))=true:=by kernel_rfl
theorem j18:(oS.bare.vars.all (Pz.varReadable ·))=true:=by kernel_rfl
theorem j19:(Tryz.f4.resultTypes.all (fun t=>Pz.readableRec t&&decide (t<Pz.types.size)))=true:=by kernel_rfl
theorem j20:(R4.ifacesOut==Tryz.f4.resultTypes.toList.any (Pz.ifacesRec ·))=true:=by kernel_rfl
theorem j21:(R4.loopsOut==Tryz.f4.resultTypes.toList.any (Pz.loopsFrom ·))=true:=by kernel_rfl
theorem j22:(R4.plainKeys==Pz.plainKeys)=true:=by kernel_rfl
theorem j23:(R4.shortTexts.isNone)=true:=by kernel_rfl
theorem j24:(Pz.stopsHeard)=true:=by kernel_rfl
theorem j25:(Pz.mayEnter)=true:=by kernel_rfl
theorem j26:(R4.lifted==Pz.liftsFinal)=true:=by kernel_rfl
theorem j27:(Pz.make==some R4.make)=true:=by kernel_rfl
theorem j28:(R4.kinds==(if R4.domain.isEmpty then [] else Tryz.f4.params.toList.map fun t=>match Pz.underlying t with | some (.int k)=>some k | _=>none))=true:=by kernel_rfl
theorem j29:(R4.pinned==R4.pinnedBy)=true:=by kernel_rfl
theorem j30:(R4.veiled==(V4++Tryz.f4.resultTypes.toList).any (Pz.veiledRec ·))=true:=by kernel_rfl
theorem j31:(R4.veiledFits Pz Tryz.f4.params.toList (V4++Tryz.f4.resultTypes.toList))=true:=by kernel_rfl
theorem joined4:joinedFacts Tryz.prog 4 Tryz.f4 (OpenSpec.ofChange Rows.sanParseSpec).bare Rows.sanParseRow=true:=(a2 (a2 (a2 (a2 (a2 (a2 (a2 (a2 (a2 (a2 (a2 (a2 (a2 (a2 (a2 (a2 (a2 (a2 (a2 (a2 (a2 (a2 (a2 (a2 (a2 (a2 (a2 (a2 (a2 (a2 (a2 j0 j1) j2) j3) j4) j5) j6) j7) j8) j9) j10) j11) j12) j13) j14) j15) j16) j17) j18) j19) j20) j21) j22) j23) j24) j25) j26) j27) j28) j29) j30) j31)
theorem named4:Tryz.pinned.checked.prog.funcNamed Rows.sanParseRow.func=some 4:=by kernel_rfl
theorem said4:Rows.SanParseSaid :=
 OpenClaim.holds_of_cond 4 Tryz.f4 rfl rfl rfl rfl rfl rfl rfl ⟨rfl,rfl,rfl,rfl,rfl⟩ rfl rfl rfl rfl rfl named4 Tryz.func4 joined4
  (of_decide_eq_true (by kernel_rfl)) (by unfold Func.isWrapper;first | (rw [if_pos (by decide +kernel)];kernel_rfl) | (rw [if_neg (by decide +kernel)];exact ⟨rfl,rfl⟩))
  (fun os started H enc _ F=>by rw [OpenClaim.pre_eq_preRow];exact lifted4 os started H enc F)
theorem plain4 (f:FuncId) (fn:Func) (hf:Tryz.pinned.checked.prog.funcNamed Rows.sanParseRow.func=some f) (hfn:Tryz.pinned.checked.prog.funcs[f]?=some fn) :
  true=Tryz.pinned.checked.prog.looks []∧∀ (j:Nat) t,fn.params[j]?=some t→Tryz.pinned.checked.prog.wantsStandIn t=false:=by
 obtain rfl:f=4:=Option.some.inj (named4.symm.trans hf) |>.symm
 obtain rfl:fn=Tryz.f4:=(Option.some.inj (Tryz.func4.symm.trans hfn)).symm
 refine ⟨by kernel_rfl,fun j t ht=>?_⟩
 rw [par4] at ht
 have h:([31,9]:List TypeId).all (fun t => !Tryz.prog.wantsStandIn t)=true:=by kernel_rfl
 have hm:t∈([31,9]:List TypeId):=by simpa using Array.mem_of_getElem? ht
 have hw:Tryz.prog.wantsStandIn t=false:=by simpa using List.all_eq_true.1 h t hm
 exact hw
theorem card4:Rows.SanParseCardSaid :=
 Claim7.holds_tied_plain_at .later [] _ _ _ _ said4 (fun _ h=>by cases h) (by kernel_rfl) (fun _ h=>by cases h) sanParse_row_tie rfl ⟨rfl,rfl⟩ (by kernel_rfl) rfl plain4 (by kernel_rfl)
end Go.Proofs.YtmhlngkbgbenhaaGreatDoor
end
