/- Part 6 of the texts under the proof: an abstract interpreter,the summaries of functions,plain laws. -/
import Derived.Test.YtmhlngkbgbenhaaGreatDoorT5
set_option linter.unusedSectionVars false
set_option linter.unusedVariables false
set_option linter.unusedSimpArgs false
set_option linter.unnecessarySimpa false
noncomputable section
namespace Kz
open Go Go.RowKit Go.Proofs
set_option maxRecDepth 100000
set_option maxHeartbeats 4000000
def af8:KT:=[(163,56,[(0,(1::2::3::(rn 11 6 (rn 19 5 (rn 43 8 []))))),(1,(1::2::3::24::(rn 43 8 []))),(2,[6]),(3,(1::2::3::29::(rn 43 8 []))),(4,(1::2::3::29::30::(rn 43 8 []))),(5,[6]),(6,(1::2::3::36::(rn 43 8 []))),(7,[6]),(8,[6])])]
def adL:ax:=bO Pz af8 [(93,mJ),(83,VX),(96,G96),(170,BH),(235,aaR)] [] []
theorem aa9:aV adL:=ak aj ⟨mS,s83,s96,E6,ahz,trivial⟩ trivial trivial
def mE (a:Pos) (b:Int) (c:Int):Bool:=(bif b==c then (false) else (bif !GI a b a.aa then (false) else (bif GI a c a.aa then (false) else (bif bA (a.ae.getD (scale 1 b).toNat 0)==1 then (GD a b c) else (bif bA (a.ae.getD (scale 1 b).toNat 0)==6 then (bif np a b c then (bif a.variant != 3 then (true) else (zZ a c)) else (false)) else (np a b c))))))
def vB (a:Pos) (b:Int) (c:Int):Bool:=(bif b==c then true else (Ap (a) (b) (a.aa)&&(bif !GI a b a.aa then true else (Ap (a) (c) (a.aa)&&(bif GI a c a.aa then true else (decide (0≤b)&&decide (b < Int.ofNat 64)&&(bif bA (a.ae.getD (scale 1 b).toNat 0)==1 then (yQ (a) (b) (c)&&true) else (bif bA (a.ae.getD (scale 1 b).toNat 0)==6 then (nF (a) (b) (c)&&(bif np a b c then (bif a.variant != 3 then true else (pn (a) (c)&&true)) else true)) else (nF (a) (b) (c)&&true)))))))))
theorem ads (a:Pos) (b:Int) (c:Int) (h:vB a b c=true):PS Pz 163 [Pos.av a,.int .i64 b,.int .i64 c] (dB.res (mE a b c)):=pq14 aa9 h
def FE:GT:=g3 aZ (dI .i64) (dI .i64) (fun a b c=>bV (vB a b c) (dB.res (mE a b c)))
theorem H6:Sound Pz 163 FE:=cw fun a b c=>az (ads a b c)
def adI:KT:=[(165,11,[(0,[0]),(1,[0,3]),(2,[2]),(3,[7]),(4,[2]),(5,[2])])]
def adz:ax:=bO Pz adI [] [] []
theorem Yy:aV adz:=ak aj trivial trivial trivial
def jn (a:Int):List Int:=(bif a==4 then [(2),(3),(4),(5),(6)] else (bif decide (a < 8) then [(2),(3),(4),(5)] else ([])))
def YO (a:Int):Bool:=true
theorem ahe (a:Int) (h:YO a=true):PS Pz 165 [.int .u8 a] ((dL (.i .u8)).res (jn a)):=pq14 Yy h
def Bg:GT:=g1 (dI .u8) (fun a=>.ret ((dL (.i .u8)).res (jn a)))
theorem E7:Sound Pz 165 Bg:=aH fun a=>b7 (ahe a rfl)
def K84:KT:=[(84,67,[(0,(1::(rn 38 5 []))),(1,(1::3::(rn 38 5 []))),(2,(1::3::11::(rn 38 5 []))),(3,[2]),(4,(1::3::4::(rn 38 5 []))),(5,(1::3::4::14::(rn 38 5 []))),(6,(1::3::4::(rn 38 5 []))),(7,(1::3::4::5::(rn 38 5 []))),(8,(1::3::4::5::18::(rn 38 5 []))),(9,(1::3::4::5::(rn 38 5 []))),(10,(1::3::4::5::25::(rn 38 5 []))),(11,(1::(rn 3 4 (rn 38 5 [])))),(12,(1::(rn 3 4 (rn 38 6 [])))),(13,(1::3::4::5::(rn 38 5 []))),(14,(1::(rn 3 5 (rn 38 5 [])))),(15,(1::(rn 3 6 (rn 38 5 [])))),(16,(1::(rn 3 6 (rn 38 5 [54])))),(17,(1::(rn 3 6 (rn 38 5 [])))),(18,(1::(rn 3 6 (rn 38 5 [])))),(19,(1::(rn 3 6 (rn 38 5 [])))),(20,[2])])]
def ZZ:ax:=bO Pz K84 [(38,LS),(93,mJ),(163,FE),(164,wG),(165,Bg)] [] []
theorem Ub:aV ZZ:=ak aj ⟨C6,mS,H6,zI,E7,trivial⟩ trivial trivial
def QI (p1:Int) (p2:Int) (p3:(List Int)) (p4:Int) (p5:Int) (p6:Bool) (p7:Pos) (p8:Nat) (x:((List Mv)×Int×Mv)):St:=St.mk (.any::.ptr 0 0::.any::.list .mv x.1 (.own 1)::.int .i64 p1::.int .i64 p2::.ptr 1 0::.list (ET.i .u8) p3 .fresh::.int .i64 x.2.1::(an 29 (.ptr 0 78::.int .u8 p4::.int .i64 p2::.int .i64 p5::.bool p6::(an 24 [])))) (Hp.mk [(pc p7 []),[.int .i8 x.2.2.aw,.int .i8 x.2.2.to,.int .u8 x.2.2.aM,.int .u8 x.2.2.aD,.bool x.2.2.bq]] [p8,x.1.length] [] 0 0 0)
def Qs (p1:Int) (p2:Int) (p3:(List Int)) (p4:Int) (p5:Int) (p6:Bool) (p7:Pos) (p8:Nat):((List Mv)×Int×Bool×Mv)→Out:=fun y=>.exit 4 (St.mk (.any::.ptr 0 0::.any::.list .mv y.1 (.own 1)::.int .i64 p1::.int .i64 p2::.ptr 1 0::.list (ET.i .u8) p3 .fresh::.int .i64 y.2.1::(an 29 (.ptr 0 78::.int .u8 p4::.int .i64 p2::.int .i64 p5::.bool p6::(an 11 (.bool y.2.2.1::(an 12 [])))))) (Hp.mk [(pc p7 []),[.int .i8 y.2.2.2.aw,.int .i8 y.2.2.2.to,.int .u8 y.2.2.2.aM,.int .u8 y.2.2.2.aD,.bool y.2.2.2.bq]] [p8,y.1.length] [] 0 0 0))
def UN (p1:Int) (p2:Int) (p3:(List Int)) (p4:Int) (p5:Int) (p6:Bool) (p7:Pos) (p8:Nat) (x:((List Mv)×Int×Mv)):aF ((List Mv)×Int×Mv) (((List Mv)×Int×Bool×Mv)):=(bif decide (x.2.1 < Int.ofNat p3.length) then (aF.go (x.1++[Mv.mk x.2.2.aw x.2.2.to (p3.getD x.2.1.toNat default) x.2.2.aD x.2.2.bq],wr .i64 (x.2.1+1),Mv.mk x.2.2.aw x.2.2.to (p3.getD x.2.1.toNat default) x.2.2.aD x.2.2.bq)) else (aF.out ((x.1,x.2.1,decide (x.2.1 < Int.ofNat p3.length),x.2.2))))
def OQ (p1:Int) (p2:Int) (p3:(List Int)) (p4:Int) (p5:Int) (p6:Bool) (p7:Pos) (p8:Nat) (x:((List Mv)×Int×Mv)):Bool:=(bif decide (x.2.1 < Int.ofNat p3.length) then (decide (0≤x.2.1)&&decide (x.2.1 < Int.ofNat p3.length)&&(x.1.length==x.1.length&&decide (x.1.length+1≤1073741824)&&true)) else true)
def tZ (p1:Int) (p2:Int) (p3:(List Int)) (p4:Int) (p5:Int) (p6:Bool) (p7:Pos) (p8:Nat) (x:((List Mv)×Int×Mv)):Option (((List Mv)×Int×Bool×Mv)):=cP (fun x=>bif OQ p1 p2 p3 p4 p5 p6 p7 p8 x then UN p1 p2 p3 p4 p5 p6 p7 p8 x else .bad) many x
abbrev Q5 {α:Type} (k:Int→Int→(List Int)→Int→Int→Bool→Pos→Nat→((List Mv)×Int×Mv)→α) (s:St):α:=wP s 0 fun q0=>wM s 1 fun q1=>k (tI (tT s 4)) (tI (tT s 5)) (tL (ET.i .u8) (tT s 7)) (tI (tT s 39)) (tI (tT s 41)) (tB (tT s 42)) q0 (tK s 0) ((tL (ET.mv) (tT s 3)),(tI (tT s 8)),q1)
theorem aau (p1:Int) (p2:Int) (p3:(List Int)) (p4:Int) (p5:Int) (p6:Bool) (p7:Pos) (p8:Nat) (x:((List Mv)×Int×Mv)) (r:((List Mv)×Int×Bool×Mv)) (h:tZ p1 p2 p3 p4 p5 p6 p7 p8 x=some r):aB Pz (bj Pz 84 16) (QI p1 p2 p3 p4 p5 p6 p7 p8 x) (Qs p1 p2 p3 p4 p5 p6 p7 p8 r):=smq (m:=12) (fn:=84) Ub (Q5 fun _ _ _ _ _ _ _ _ x=>some x) (fun o=>match o with | .exit 4 s=>wM s 1 fun q1=>some ((tL ET.mv (tT s 3)),(tI (tT s 8)),(tB (tT s 54)),q1) | _=>none) many x r h
def Ej (b:Code) (s:St):Tr Out:=Q5 (fun p1 p2 p3 p4 p5 p6 p7 p8 x=>lO b (bj Pz 84 16) s (QI p1 p2 p3 p4 p5 p6 p7 p8 x) (tZ p1 p2 p3 p4 p5 p6 p7 p8 x) (Qs p1 p2 p3 p4 p5 p6 p7 p8)) s
theorem AZ:∀ b,aY Pz b (Ej b):=fun _ _ _ h=>bS (aau _ _ _ _ _ _ _ _ _) h
def aaV:ax:=bO Pz K84 [(38,LS),(93,mJ),(163,FE),(164,wG),(165,Bg)] [(84,16,Ej)] []
theorem RW:aV aaV:=ak aj ⟨C6,mS,H6,zI,E7,trivial⟩ ⟨AZ,trivial⟩ trivial
def Rf (p1:Int) (p2:Pos) (p3:Nat) (x:((List Mv)×Int)):St:=St.mk (.any::.ptr 0 0::.any::.list .mv x.1 (.own 1)::.int .i64 p1::.int .i64 x.2::(an 61 [])) (Hp.mk [(pc p2 [])] [p3,x.1.length] [] 0 0 0)
def O7 (p1:Int) (p2:Pos) (p3:Nat):((List Mv)×Int×Bool)→Out:=fun y=>.exit 2 (St.mk (.any::.ptr 0 0::.any::.list .mv y.1 (.own 1)::.int .i64 p1::.int .i64 y.2.1::(an 12 (.bool y.2.2::(an 48 [])))) (Hp.mk [(pc p2 [])] [p3,y.1.length] [] 0 0 0))
def Hq (p1:Int) (p2:Pos) (p3:Nat) (x:((List Mv)×Int)):aF ((List Mv)×Int) (((List Mv)×Int×Bool)):=(bif decide (x.2 < 64) then (bif !mE p2 p1 x.2 then (aF.go (x.1,wr .i64 (x.2+1))) else (bif bA (p2.ae.getD (scale 1 p1).toNat 0) != 1 then (aF.go (x.1++[Mv.mk (wr .i8 p1) (wr .i8 x.2) 0 0 false],wr .i64 (x.2+1))) else (bif gW p2.aa x.2 != 7 then (aF.go (x.1++[Mv.mk (wr .i8 p1) (wr .i8 x.2) 0 0 false],wr .i64 (x.2+1))) else (aF.go (((tZ p1 x.2 (jn p2.variant) p2.aa (gW p2.aa x.2) (gW p2.aa x.2 != 7) p2 p3 (x.1,0,Mv.mk (wr .i8 p1) (wr .i8 x.2) 0 0 false)).getD default).1,wr .i64 (x.2+1)))))) else (aF.out ((x.1,x.2,decide (x.2 < 64)))))
def CC (p1:Int) (p2:Pos) (p3:Nat) (x:((List Mv)×Int)):Bool:=(bif decide (x.2 < 64) then (vB (p2) (p1) (x.2)&&(bif !mE p2 p1 x.2 then true else (decide (0≤p1)&&decide (p1 < Int.ofNat 64)&&(bif bA (p2.ae.getD (scale 1 p1).toNat 0) != 1 then (x.1.length==x.1.length&&decide (x.1.length+1≤1073741824)&&true) else (bif gW p2.aa x.2 != 7 then (x.1.length==x.1.length&&decide (x.1.length+1≤1073741824)&&true) else ((tZ p1 x.2 (jn p2.variant) p2.aa (gW p2.aa x.2) (gW p2.aa x.2 != 7) p2 p3 (x.1,0,Mv.mk (wr .i8 p1) (wr .i8 x.2) 0 0 false)).isSome&&true)))))) else true)
def uq (p1:Int) (p2:Pos) (p3:Nat) (x:((List Mv)×Int)):Option (((List Mv)×Int×Bool)):=cP (fun x=>bif CC p1 p2 p3 x then Hq p1 p2 p3 x else .bad) many x
abbrev OY {α:Type} (k:Int→Pos→Nat→((List Mv)×Int)→α) (s:St):α:=wP s 0 fun q0=>k (tI (tT s 4)) q0 (tK s 0) ((tL (ET.mv) (tT s 3)),(tI (tT s 5)))
theorem Ws (p1:Int) (p2:Pos) (p3:Nat) (x:((List Mv)×Int)) (r:((List Mv)×Int×Bool)) (h:uq p1 p2 p3 x=some r):aB Pz (bj Pz 84 8) (Rf p1 p2 p3 x) (O7 p1 p2 p3 r):=smq (m:=12) (fn:=84) RW (OY fun _ _ _ x=>some x) (fun o=>match o with | .exit 2 s=>some ((tL ET.mv (tT s 3)),(tI (tT s 5)),(tB (tT s 18))) | _=>none) many x r h
def Lo (b:Code) (s:St):Tr Out:=OY (fun p1 p2 p3 x=>lO b (bj Pz 84 8) s (Rf p1 p2 p3 x) (uq p1 p2 p3 x) (O7 p1 p2 p3)) s
theorem KO:∀ b,aY Pz b (Lo b):=fun _ _ _ h=>bS (Ws _ _ _ _) h
def W1:ax:=bO Pz K84 [(38,LS),(93,mJ),(163,FE),(164,wG),(165,Bg)] [(84,16,Ej),(84,8,Lo)] []
theorem Tt:aV W1:=ak aj ⟨C6,mS,H6,zI,E7,trivial⟩ ⟨AZ,KO,trivial⟩ trivial
def QK (p1:Pos) (p2:Nat) (x:((List Mv)×Int)):St:=St.mk (.any::.ptr 0 0::.any::.list .mv x.1 (.own 1)::.int .i64 x.2::(an 62 [])) (Hp.mk [(pc p1 [])] [p2,x.1.length] [] 0 0 0)
def P3 (p1:Pos) (p2:Nat):((List Mv)×Int×Bool)→Out:=fun y=>.exit 0 (St.mk (.any::.ptr 0 0::.any::.list .mv y.1 (.own 1)::.int .i64 y.2.1::(an 9 (.bool y.2.2::(an 52 [])))) (Hp.mk [(pc p1 [])] [p2,y.1.length] [] 0 0 0))
def JU (p1:Pos) (p2:Nat) (x:((List Mv)×Int)):aF ((List Mv)×Int) (((List Mv)×Int×Bool)):=(bif decide (x.2 < 64) then (aF.go (((uq x.2 p1 p2 (x.1,0)).getD default).1,wr .i64 (x.2+1))) else (aF.out ((x.1,x.2,decide (x.2 < 64)))))
def C0 (p1:Pos) (p2:Nat) (x:((List Mv)×Int)):Bool:=(bif decide (x.2 < 64) then ((uq x.2 p1 p2 (x.1,0)).isSome&&true) else true)
def nw (p1:Pos) (p2:Nat) (x:((List Mv)×Int)):Option (((List Mv)×Int×Bool)):=cP (fun x=>bif C0 p1 p2 x then JU p1 p2 x else .bad) many x
abbrev QE {α:Type} (k:Pos→Nat→((List Mv)×Int)→α) (s:St):α:=wP s 0 fun q0=>k q0 (tK s 0) ((tL (ET.mv) (tT s 3)),(tI (tT s 4)))
theorem Z1 (p1:Pos) (p2:Nat) (x:((List Mv)×Int)) (r:((List Mv)×Int×Bool)) (h:nw p1 p2 x=some r):aB Pz (bj Pz 84 5) (QK p1 p2 x) (P3 p1 p2 r):=smq (m:=12) (fn:=84) Tt (QE fun _ _ x=>some x) (fun o=>match o with | .exit 0 s=>some ((tL ET.mv (tT s 3)),(tI (tT s 4)),(tB (tT s 14))) | _=>none) many x r h
def PW (b:Code) (s:St):Tr Out:=QE (fun p1 p2 x=>lO b (bj Pz 84 5) s (QK p1 p2 x) (nw p1 p2 x) (P3 p1 p2)) s
theorem Sz:∀ b,aY Pz b (PW b):=fun _ _ _ h=>bS (Z1 _ _ _) h
def B84:ax:=bO Pz K84 [(38,LS),(93,mJ),(163,FE),(164,wG),(165,Bg)] [(84,16,Ej),(84,8,Lo),(84,5,PW)] []
theorem ah1:aV B84:=ak aj ⟨C6,mS,H6,zI,E7,trivial⟩ ⟨AZ,KO,Sz,trivial⟩ trivial
def Gf (a:Pos):List Mv:=(bif !yd a then ([]) else (((nw a 0 ([],0)).getD default).1))
def JY (a:Pos):Bool:=(bif !yd a then true else ((nw a 0 ([],0)).isSome&&true))
theorem P84 (a:Pos) (h:JY a=true):PS Pz 84 [Pos.av a] ((dL .mv).res (Gf a)):=pq14 ah1 h
def G84:GT:=g1 aZ (fun a=>bV (JY a) ((dL .mv).res (Gf a)))
theorem s84:Sound Pz 84 G84:=aH fun a=>az (P84 a)
def aiD:KT:=[(168,6,[(0,[0]),(1,[5]),(2,[2,3]),(3,[2,3])])]
def acw:ax:=bO Pz aiD [] [] []
theorem Yv:aV acw:=ak aj trivial trivial trivial
def dD (a:Int):(Int×Int):=(bif a==0 then ((6),(5)) else ((2),(3)))
def WY (a:Int):Bool:=true
theorem acA (a:Int) (h:WY a=true):PS Pz 168 [.int .i64 a] ((d2 (dI .i64) (dI .i64)).res (dD a)):=pq14 Yv h
def EV:GT:=g1 (dI .i64) (fun a=>.ret ((d2 (dI .i64) (dI .i64)).res (dD a)))
theorem IK:Sound Pz 168 EV:=aH fun a=>b7 (acA a rfl)
def ajw:KT:=[(236,13,[(0,[0,6,7,10,11]),(1,[2])])]
def agF:ax:=bO Pz ajw [] [] []
theorem aat:aV agF:=ak aj trivial trivial trivial
def BY (a:Int):Bool:=(bif decide (a < 9) then (bif a != 4 then (a != 8) else (false)) else (false))
def Wj (a:Int):Bool:=true
theorem ajm (a:Int) (h:Wj a=true):PS Pz 236 [.int .u8 a] (dB.res (BY a)):=pq14 aat h
def RY:GT:=g1 (dI .u8) (fun a=>.ret (dB.res (BY a)))
theorem aaE:Sound Pz 236 RY:=aH fun a=>b7 (ajm a rfl)
def aeq:KT:=[(237,25,[(0,(0::1::2::11::12::13::(rn 16 8 []))),(1,[6])])]
def aea:ax:=bO Pz aeq [] [] []
theorem Yl:aV aea:=ak aj trivial trivial trivial
def fK (a:Int) (b:Int) (c:Int):Bool:=(bif decide (a ≥ b) then (bif decide (a≤c) then (true) else (bif decide (a ≥ c) then (decide (a≤b)) else (false))) else (bif decide (a ≥ c) then (decide (a≤b)) else (false)))
def aac (a:Int) (b:Int) (c:Int):Bool:=true
theorem ahN (a:Int) (b:Int) (c:Int) (h:aac a b c=true):PS Pz 237 [.int .i64 a,.int .i64 b,.int .i64 c] (dB.res (fK a b c)):=pq14 Yl h
def UA:GT:=g3 (dI .i64) (dI .i64) (dI .i64) (fun a b c=>.ret (dB.res (fK a b c)))
theorem Zc:Sound Pz 237 UA:=cw fun a b c=>b7 (ahN a b c rfl)
def Zl:KT:=[(110,48,[(0,(1::2::3::12::13::16::17::(rn 28 7 (rn 37 4 [])))),(1,(1::2::3::7::12::13::16::17::(rn 28 7 (rn 37 4 [])))),(2,(1::2::3::7::8::12::13::16::17::(rn 28 7 (rn 37 4 [])))),(3,(1::2::3::7::8::12::13::16::17::18::(rn 28 7 (rn 37 4 [])))),(4,(1::2::3::7::8::12::13::16::17::(rn 28 7 (rn 37 4 [])))),(5,(1::2::3::7::8::12::13::16::17::(rn 28 7 (rn 37 5 [])))),(6,(1::2::3::7::8::12::13::16::17::(rn 28 7 (rn 37 4 [])))),(7,[6])])]
def R3:ax:=bO Pz Zl [(93,mJ),(162,zN),(170,BH)] [] []
theorem NR:aV R3:=ak aj ⟨mS,Cl,E6,trivial⟩ trivial trivial
def Il (p1:Int) (p2:Int) (p3:Pos) (x:((BitVec 64)×Int)):St:=St.mk (.any::.int .i64 p1::.int .u8 p2::.ptr 0 0::(an 3 (.u64 x.1::.int .i64 x.2::(an 39 [])))) (Hp.mk [(pc p3 [])] [] [] 0 0 0)
def JC (p1:Int) (p2:Int) (p3:Pos):((BitVec 64)×Int×Bool)→Out:=fun y=>.exit 0 (St.mk (.any::.int .i64 p1::.int .u8 p2::.ptr 0 0::(an 3 (.u64 y.1::.int .i64 y.2.1::(an 9 (.bool y.2.2::(an 29 [])))))) (Hp.mk [(pc p3 [])] [] [] 0 0 0))
def CL (p1:Int) (p2:Int) (p3:Pos) (x:((BitVec 64)×Int)):aF ((BitVec 64)×Int) (((BitVec 64)×Int×Bool)):=(bif decide (x.2 < 64) then (bif decide (p1 ≥ 0) then (bif decide (p1 < 64) then (bif bA (p3.ae.getD (scale 1 x.2).toNat 0) != 0 then (bif eY (p3.ae.getD (scale 1 x.2).toNat 0)==p2 then (bif np p3 x.2 p1 then (aF.go (x.1|||1#64 <<< (BitVec.ofInt 64 x.2).toNat,wr .i64 (x.2+1))) else (aF.go (x.1,wr .i64 (x.2+1)))) else (aF.go (x.1,wr .i64 (x.2+1)))) else (aF.go (x.1,wr .i64 (x.2+1)))) else (aF.out ((x.1,x.2,decide (p1 < 64))))) else (aF.out ((x.1,x.2,false)))) else (aF.out ((x.1,x.2,false))))
def Ao (p1:Int) (p2:Int) (p3:Pos) (x:((BitVec 64)×Int)):Bool:=(bif decide (x.2 < 64) then (bif decide (p1 ≥ 0) then (bif decide (p1 < 64) then (decide (0≤x.2)&&decide (x.2 < Int.ofNat 64)&&(bif bA (p3.ae.getD (scale 1 x.2).toNat 0) != 0 then (decide (0≤x.2)&&decide (x.2 < Int.ofNat 64)&&(bif eY (p3.ae.getD (scale 1 x.2).toNat 0)==p2 then (nF (p3) (x.2) (p1)&&true) else true)) else true)) else true) else true) else true)
def nB (p1:Int) (p2:Int) (p3:Pos) (x:((BitVec 64)×Int)):Option (((BitVec 64)×Int×Bool)):=cP (fun x=>bif Ao p1 p2 p3 x then CL p1 p2 p3 x else .bad) many x
abbrev Kd {α:Type} (k:Int→Int→Pos→((BitVec 64)×Int)→α) (s:St):α:=wP s 0 fun q0=>k (tI (tT s 1)) (tI (tT s 2)) q0 ((tU (tT s 7)),(tI (tT s 8)))
theorem Sm (p1:Int) (p2:Int) (p3:Pos) (x:((BitVec 64)×Int)) (r:((BitVec 64)×Int×Bool)) (h:nB p1 p2 p3 x=some r):aB Pz (bj Pz 110 3) (Il p1 p2 p3 x) (JC p1 p2 p3 r):=smq (m:=12) (fn:=110) NR (Kd fun _ _ _ x=>some x) (fun o=>match o with | .exit 0 s=>some ((tU (tT s 7)),(tI (tT s 8)),(tB (tT s 18))) | _=>none) many x r h
def LH (b:Code) (s:St):Tr Out:=Kd (fun p1 p2 p3 x=>lO b (bj Pz 110 3) s (Il p1 p2 p3 x) (nB p1 p2 p3 x) (JC p1 p2 p3)) s
theorem M5:∀ b,aY Pz b (LH b):=fun _ _ _ h=>bS (Sm _ _ _ _) h
def ai2:ax:=bO Pz Zl [(93,mJ),(162,zN),(170,BH)] [(110,3,LH)] []
theorem YQ:aV ai2:=ak aj ⟨mS,Cl,E6,trivial⟩ ⟨M5,trivial⟩ trivial
def FN (a:Pos) (b:Int) (c:Int):BitVec 64:=(((nB b c a (0#64,0)).getD default).1)
def vW (a:Pos) (b:Int) (c:Int):Bool:=((nB b c a (0#64,0)).isSome&&true)
theorem ab4 (a:Pos) (b:Int) (c:Int) (h:vW a b c=true):PS Pz 110 [Pos.av a,.int .i64 b,.int .u8 c] (dU.res (FN a b c)):=pq14 YQ h
def Mj:GT:=g3 aZ (dI .i64) (dI .u8) (fun a b c=>bV (vW a b c) (dU.res (FN a b c)))
theorem T8:Sound Pz 110 Mj:=cw fun a b c=>az (ab4 a b c)
def aaz:KT:=[(238,33,[(0,[1,2,9,10,11,22,23,24]),(1,[1,2,5,9,10,11,22,23,24]),(2,(1::2::5::(rn 9 4 [22,23,24]))),(3,[1,2,5,9,10,11,22,23,24]),(4,(1::2::5::9::10::11::(rn 22 4 []))),(5,[4]),(6,[4])])]
def RI:ax:=bO Pz aaz [(110,Mj),(161,og),(169,yZ)] [] []
theorem M6:aV RI:=ak aj ⟨T8,qa,Bb,trivial⟩ trivial trivial
def Lt (p1:Int) (p2:Pos) (x:(Int)):St:=St.mk (.any::.int .i64 p1::.ptr 0 0::.any::.any::.int .i64 x::(an 27 [])) (Hp.mk [(pc p2 [])] [] [] 0 0 0)
def Lu (p1:Int) (p2:Pos):Unit ⊕ (Int×Bool)→Out
 | (.inl (y))=>.ret (St.mk (an 4 (AV.aP true::(an 28 []))) (Hp.mk [(pc p2 [])] [] [] 0 0 0))
 | (.inr (y))=>.exit 0 (St.mk (AV.any::AV.int .i64 p1::AV.ptr 0 0::AV.any::AV.any::AV.int .i64 y.1::(an 6 (AV.bool y.2::(an 20 [])))) (Hp.mk [(pc p2 [])] [] [] 0 0 0))
def j8 (p1:Int) (p2:Pos) (x:(Int)):aF (Int) (Unit ⊕ (Int×Bool)):=(bif decide (x < 64) then (bif p2.variant==3 then (bif qb p2 x (wr .u8 (1 - p2.aa)) 6 then (bif iu x p1 then (aF.out (.inl (()))) else (aF.go (wr .i64 (x+1)))) else (aF.go (wr .i64 (x+1)))) else (aF.out (.inr ((x,p2.variant==3))))) else (aF.out (.inr ((x,false)))))
def ju (p1:Int) (p2:Pos) (x:(Int)):Bool:=(bif decide (x < 64) then (bif p2.variant==3 then (mT (p2) (x) (wr .u8 (1 - p2.aa)) (6)&&true) else true) else true)
def me (p1:Int) (p2:Pos) (x:(Int)):Option (Unit ⊕ (Int×Bool)):=cP (fun x=>bif ju p1 p2 x then j8 p1 p2 x else .bad) many x
abbrev H2 {α:Type} (k:Int→Pos→(Int)→α) (s:St):α:=wP s 0 fun q0=>k (tI (tT s 1)) q0 ((tI (tT s 5)))
theorem Vj (p1:Int) (p2:Pos) (x:(Int)) (r:Unit ⊕ (Int×Bool)) (h:me p1 p2 x=some r):aB Pz (bj Pz 238 2) (Lt p1 p2 x) (Lu p1 p2 r):=aB.vF (m:=12) (fn:=238) M6 (H2 fun _ _ x=>some x) (fun o=>match o with | .ret s=>some (.inl ()) | .exit 0 s=>some (.inr ((tI (tT s 5)),(tB (tT s 12)))) | _=>none) (fun r=>by cases r <;> rfl) (fun _=>by kernel_rfl) (fun _=>by kernel_rfl) (fun _=>by kernel_rfl) (fun _=>by kernel_rfl) many x r h
def IL (b:Code) (s:St):Tr Out:=H2 (fun p1 p2 x=>vM b (bj Pz 238 2) s (Lt p1 p2 x) (me p1 p2 x) (Lu p1 p2)) s
theorem Ni:∀ b,aY Pz b (IL b):=fun _ _ _ h=>dq (Vj _ _ _) h
def acJ:ax:=bO Pz aaz [(110,Mj),(161,og),(169,yZ)] [(238,2,IL)] []
theorem XN:aV acJ:=ak aj ⟨T8,qa,Bb,trivial⟩ ⟨Ni,trivial⟩ trivial
def tO (a:Pos) (b:Int):Bool:=(bif cq ((me b a 0).getD default) then (true) else (FN a b (wr .u8 (1 - a.aa))==0#64))
def sC (a:Pos) (b:Int):Bool:=((me b a 0).isSome&&bif cq ((me b a 0).getD default) then true else (vW (a) (b) (wr .u8 (1 - a.aa))&&true))
theorem abI (a:Pos) (b:Int) (h:sC a b=true):PS Pz 238 [Pos.av a,.int .i64 b] (dB.res (tO a b)):=pq14 XN h
def Vh:GT:=g2 aZ (dI .i64) (fun a b=>bV (sC a b) (dB.res (tO a b)))
theorem Y4:Sound Pz 238 Vh:=aW fun a b=>az (abI a b)
def Yj:KT:=[(166,138,[(0,(1::2::(rn 20 4 (rn 45 4 (51::52::55::56::(rn 68 7 (rn 77 7 (rn 112 6 (rn 120 6 (rn 128 7 [])))))))))),(1,(1::2::24::(rn 45 4 (51::52::55::56::(rn 68 7 (rn 77 7 (rn 112 6 (rn 120 6 (rn 128 7 []))))))))),(2,[4,5,6]),(3,(1::2::7::(rn 45 4 (51::52::55::56::(rn 68 7 (rn 77 7 (rn 112 6 (rn 120 6 (rn 128 7 []))))))))),(4,(1::2::7::8::(rn 45 4 (51::52::55::56::(rn 68 7 (rn 77 7 (rn 112 6 (rn 120 6 (rn 128 7 []))))))))),(5,(1::2::7::8::9::(rn 45 4 (51::52::55::56::(rn 68 7 (rn 77 7 (rn 112 6 (rn 120 6 (rn 128 7 []))))))))),(6,(1::2::7::8::9::57::(rn 68 7 (rn 77 7 (rn 112 6 (rn 120 6 (rn 128 7 []))))))),(7,[4,5,6]),(8,(1::2::7::8::10::(rn 68 7 (rn 77 7 (rn 112 6 (rn 120 6 (rn 128 7 []))))))),(9,(1::2::7::8::10::84::(rn 112 6 (rn 120 6 (rn 128 7 []))))),(10,[4,5,6]),(11,(2::7::8::10::11::12::(rn 112 6 (rn 120 6 (rn 128 7 []))))),(12,(7::8::(rn 10 4 (rn 112 6 (rn 120 6 (rn 128 7 [])))))),(13,(7::8::(rn 10 4 (rn 112 6 (rn 120 6 (rn 128 7 [])))))),(14,(7::8::(rn 10 4 (rn 112 6 (rn 120 6 (rn 128 7 [])))))),(15,(7::8::(rn 10 5 (rn 112 6 (rn 120 6 (rn 128 7 [])))))),(16,(7::8::(rn 10 5 (101::(rn 112 6 (rn 120 6 (rn 128 7 []))))))),(17,(7::8::(rn 10 5 (rn 112 6 (rn 120 6 (rn 128 7 [])))))),(18,(7::8::(rn 10 6 (rn 112 6 (rn 120 6 (rn 128 7 [])))))),(19,(7::8::(rn 10 5 (rn 112 6 (rn 120 6 (rn 128 8 [])))))),(20,[4,5,6]),(21,[4,5,6])])]
def RM:ax:=bO Pz Yj [(93,mJ),(82,Oy),(161,og),(168,EV),(236,RY),(237,UA),(238,Vh)] [] []
theorem Nf:aV RM:=ak aj ⟨mS,Qj,qa,IK,aaE,Zc,Y4,trivial⟩ trivial trivial
def JR (p1:Int) (p2:Int) (p3:Int) (p4:Int) (p5:Int) (p6:Pos) (p7:Pos) (x:(Int)):St:=St.mk (an 7 (.int .i64 p1::.int .i64 p2::.any::.int .i64 p3::.int .i64 p4::.int .i64 p5::.ptr 1 0::.int .i64 x::(an 123 []))) (Hp.mk [(pc p6 []),(pc p7 [])] [] [] 0 0 0)
def II (p1:Int) (p2:Int) (p3:Int) (p4:Int) (p5:Int) (p6:Pos) (p7:Pos):Unit ⊕ (Int×Bool)→Out
 | (.inl (y))=>.ret (St.mk (an 4 (AV.bH .i64 0::AV.bH .i64 0::AV.aP false::(an 131 []))) (Hp.mk [(pc p6 []),(pc p7 [])] [] [] 0 0 0))
 | (.inr (y))=>.exit 0 (St.mk (an 7 (AV.int .i64 p1::AV.int .i64 p2::AV.any::AV.int .i64 p3::AV.int .i64 p4::AV.int .i64 p5::AV.ptr 1 0::AV.int .i64 y.1::(an 86 (AV.bool y.2::(an 36 []))))) (Hp.mk [(pc p6 []),(pc p7 [])] [] [] 0 0 0))
def xc (p1:Int) (p2:Int) (p3:Int) (p4:Int) (p5:Int) (p6:Pos) (p7:Pos) (x:(Int)):aF (Int) (Unit ⊕ (Int×Bool)):=(bif decide (x < wr .i64 (p1+8)) then (bif fK x p2 (wr .i64 (p1+p4)) then (bif bA (p7.ae.getD (scale 1 x).toNat 0) != 0 then (aF.out (.inl (()))) else (bif fK x p2 (wr .i64 (p1+p4)) then (bif !tO p7 x then (aF.out (.inl (()))) else (aF.go (wr .i64 (x+1)))) else (aF.go (wr .i64 (x+1))))) else (bif fK x p3 (wr .i64 (p1+p5)) then (bif bA (p7.ae.getD (scale 1 x).toNat 0) != 0 then (aF.out (.inl (()))) else (bif fK x p2 (wr .i64 (p1+p4)) then (bif !tO p7 x then (aF.out (.inl (()))) else (aF.go (wr .i64 (x+1)))) else (aF.go (wr .i64 (x+1))))) else (bif fK x p2 (wr .i64 (p1+p4)) then (bif !tO p7 x then (aF.out (.inl (()))) else (aF.go (wr .i64 (x+1)))) else (aF.go (wr .i64 (x+1)))))) else (aF.out (.inr ((x,decide (x < wr .i64 (p1+8)))))))
def Av (p1:Int) (p2:Int) (p3:Int) (p4:Int) (p5:Int) (p6:Pos) (p7:Pos) (x:(Int)):Bool:=(bif decide (x < wr .i64 (p1+8)) then (bif fK x p2 (wr .i64 (p1+p4)) then (decide (0≤x)&&decide (x < Int.ofNat 64)&&(bif bA (p7.ae.getD (scale 1 x).toNat 0) != 0 then true else (bif fK x p2 (wr .i64 (p1+p4)) then (sC (p7) (x)&&true) else true))) else (bif fK x p3 (wr .i64 (p1+p5)) then (decide (0≤x)&&decide (x < Int.ofNat 64)&&(bif bA (p7.ae.getD (scale 1 x).toNat 0) != 0 then true else (bif fK x p2 (wr .i64 (p1+p4)) then (sC (p7) (x)&&true) else true))) else (bif fK x p2 (wr .i64 (p1+p4)) then (sC (p7) (x)&&true) else true))) else true)
def cB (p1:Int) (p2:Int) (p3:Int) (p4:Int) (p5:Int) (p6:Pos) (p7:Pos) (x:(Int)):Option (Unit ⊕ (Int×Bool)):=cP (fun x=>bif Av p1 p2 p3 p4 p5 p6 p7 x then xc p1 p2 p3 p4 p5 p6 p7 x else .bad) many x
abbrev Hh {α:Type} (k:Int→Int→Int→Int→Int→Pos→Pos→(Int)→α) (s:St):α:=wP s 0 fun q0=>wP s 1 fun q1=>k (tI (tT s 7)) (tI (tT s 8)) (tI (tT s 10)) (tI (tT s 11)) (tI (tT s 12)) q0 q1 ((tI (tT s 14)))
theorem U1 (p1:Int) (p2:Int) (p3:Int) (p4:Int) (p5:Int) (p6:Pos) (p7:Pos) (x:(Int)) (r:Unit ⊕ (Int×Bool)) (h:cB p1 p2 p3 p4 p5 p6 p7 x=some r):aB Pz (bj Pz 166 16) (JR p1 p2 p3 p4 p5 p6 p7 x) (II p1 p2 p3 p4 p5 p6 p7 r):=aB.vF (m:=12) (fn:=166) Nf (Hh fun _ _ _ _ _ _ _ x=>some x) (fun o=>match o with | .ret s=>some (.inl ()) | .exit 0 s=>some (.inr ((tI (tT s 14)),(tB (tT s 101)))) | _=>none) (fun r=>by cases r <;> rfl) (fun _=>by kernel_rfl) (fun _=>by kernel_rfl) (fun _=>by kernel_rfl) (fun _=>by kernel_rfl) many x r h
def KA (b:Code) (s:St):Tr Out:=Hh (fun p1 p2 p3 p4 p5 p6 p7 x=>vM b (bj Pz 166 16) s (JR p1 p2 p3 p4 p5 p6 p7 x) (cB p1 p2 p3 p4 p5 p6 p7 x) (II p1 p2 p3 p4 p5 p6 p7)) s
theorem L7:∀ b,aY Pz b (KA b):=fun _ _ _ h=>dq (U1 _ _ _ _ _ _ _ _) h
def adS:ax:=bO Pz Yj [(93,mJ),(82,Oy),(161,og),(168,EV),(236,RY),(237,UA),(238,Vh)] [(166,16,KA)] []
theorem W8:aV adS:=ak aj ⟨mS,Qj,qa,IK,aaE,Zc,Y4,trivial⟩ ⟨L7,trivial⟩ trivial
def ft (a:Pos) (b:Int):(Int×Int×Bool):=(bif decide (a.aa > 1) then ((0),(0),(false)) else (bif !BY a.variant then ((0),(0),(false)) else (bif decide (fI a a.aa 6 < wr .i64 (56 * wr .i64 a.aa)) then ((0),(0),(false)) else (bif decide (fI a a.aa 6 > wr .i64 (wr .i64 (56 * wr .i64 a.aa)+7)) then ((0),(0),(false)) else (bif decide (wr .i64 (a.ai.getD (scale 2 a.aa+scale 1 b).toNat 0) < 0) then ((0),(0),(false)) else (bif decide (wr .i64 (a.ai.getD (scale 2 a.aa+scale 1 b).toNat 0) > 7) then ((0),(0),(false)) else (bif !qb a (wr .i64 (wr .i64 (56 * wr .i64 a.aa)+wr .i64 (a.ai.getD (scale 2 a.aa+scale 1 b).toNat 0))) a.aa 4 then ((0),(0),(false)) else (bif b==0 then (bif decide (wr .i64 (wr .i64 (56 * wr .i64 a.aa)+wr .i64 (a.ai.getD (scale 2 a.aa+scale 1 b).toNat 0)) < fI a a.aa 6) then ((0),(0),(false)) else (bif b==1 then (bif decide (wr .i64 (wr .i64 (56 * wr .i64 a.aa)+wr .i64 (a.ai.getD (scale 2 a.aa+scale 1 b).toNat 0)) > fI a a.aa 6) then ((0),(0),(false)) else (bif cq ((cB (wr .i64 (56 * wr .i64 a.aa)) (fI a a.aa 6) (wr .i64 (wr .i64 (56 * wr .i64 a.aa)+wr .i64 (a.ai.getD (scale 2 a.aa+scale 1 b).toNat 0))) (dD b).1 (dD b).2 a (Pos.mk a.variant ((a.ae.set (scale 1 (fI a a.aa 6)).toNat 0).set (scale 1 (wr .i64 (wr .i64 (56 * wr .i64 a.aa)+wr .i64 (a.ai.getD (scale 2 a.aa+scale 1 b).toNat 0)))).toNat 0) a.ab a.af a.aa a.ai a.ah a.ag a.half a.full) (wr .i64 (56 * wr .i64 a.aa))).getD default) then ((0),(0),(false)) else ((fI a a.aa 6),(wr .i64 (wr .i64 (56 * wr .i64 a.aa)+wr .i64 (a.ai.getD (scale 2 a.aa+scale 1 b).toNat 0))),(true)))) else (bif cq ((cB (wr .i64 (56 * wr .i64 a.aa)) (fI a a.aa 6) (wr .i64 (wr .i64 (56 * wr .i64 a.aa)+wr .i64 (a.ai.getD (scale 2 a.aa+scale 1 b).toNat 0))) (dD b).1 (dD b).2 a (Pos.mk a.variant ((a.ae.set (scale 1 (fI a a.aa 6)).toNat 0).set (scale 1 (wr .i64 (wr .i64 (56 * wr .i64 a.aa)+wr .i64 (a.ai.getD (scale 2 a.aa+scale 1 b).toNat 0)))).toNat 0) a.ab a.af a.aa a.ai a.ah a.ag a.half a.full) (wr .i64 (56 * wr .i64 a.aa))).getD default) then ((0),(0),(false)) else ((fI a a.aa 6),(wr .i64 (wr .i64 (56 * wr .i64 a.aa)+wr .i64 (a.ai.getD (scale 2 a.aa+scale 1 b).toNat 0))),(true))))) else (bif b==1 then (bif decide (wr .i64 (wr .i64 (56 * wr .i64 a.aa)+wr .i64 (a.ai.getD (scale 2 a.aa+scale 1 b).toNat 0)) > fI a a.aa 6) then ((0),(0),(false)) else (bif cq ((cB (wr .i64 (56 * wr .i64 a.aa)) (fI a a.aa 6) (wr .i64 (wr .i64 (56 * wr .i64 a.aa)+wr .i64 (a.ai.getD (scale 2 a.aa+scale 1 b).toNat 0))) (dD b).1 (dD b).2 a (Pos.mk a.variant ((a.ae.set (scale 1 (fI a a.aa 6)).toNat 0).set (scale 1 (wr .i64 (wr .i64 (56 * wr .i64 a.aa)+wr .i64 (a.ai.getD (scale 2 a.aa+scale 1 b).toNat 0)))).toNat 0) a.ab a.af a.aa a.ai a.ah a.ag a.half a.full) (wr .i64 (56 * wr .i64 a.aa))).getD default) then ((0),(0),(false)) else ((fI a a.aa 6),(wr .i64 (wr .i64 (56 * wr .i64 a.aa)+wr .i64 (a.ai.getD (scale 2 a.aa+scale 1 b).toNat 0))),(true)))) else (bif cq ((cB (wr .i64 (56 * wr .i64 a.aa)) (fI a a.aa 6) (wr .i64 (wr .i64 (56 * wr .i64 a.aa)+wr .i64 (a.ai.getD (scale 2 a.aa+scale 1 b).toNat 0))) (dD b).1 (dD b).2 a (Pos.mk a.variant ((a.ae.set (scale 1 (fI a a.aa 6)).toNat 0).set (scale 1 (wr .i64 (wr .i64 (56 * wr .i64 a.aa)+wr .i64 (a.ai.getD (scale 2 a.aa+scale 1 b).toNat 0)))).toNat 0) a.ab a.af a.aa a.ai a.ah a.ag a.half a.full) (wr .i64 (56 * wr .i64 a.aa))).getD default) then ((0),(0),(false)) else ((fI a a.aa 6),(wr .i64 (wr .i64 (56 * wr .i64 a.aa)+wr .i64 (a.ai.getD (scale 2 a.aa+scale 1 b).toNat 0))),(true))))))))))))
def lq (a:Pos) (b:Int):Bool:=(bif decide (a.aa > 1) then true else (bif !BY a.variant then true else (BV (a) (a.aa) (6)&&(decide (0≤a.aa)&&decide (a.aa < Int.ofNat 2)&&(decide (0≤b)&&decide (b < Int.ofNat 2)&&(bif decide (fI a a.aa 6 < wr .i64 (56 * wr .i64 a.aa)) then true else (bif decide (fI a a.aa 6 > wr .i64 (wr .i64 (56 * wr .i64 a.aa)+7)) then true else (bif decide (wr .i64 (a.ai.getD (scale 2 a.aa+scale 1 b).toNat 0) < 0) then true else (bif decide (wr .i64 (a.ai.getD (scale 2 a.aa+scale 1 b).toNat 0) > 7) then true else (mT (a) (wr .i64 (wr .i64 (56 * wr .i64 a.aa)+wr .i64 (a.ai.getD (scale 2 a.aa+scale 1 b).toNat 0))) (a.aa) (4)&&(bif !qb a (wr .i64 (wr .i64 (56 * wr .i64 a.aa)+wr .i64 (a.ai.getD (scale 2 a.aa+scale 1 b).toNat 0))) a.aa 4 then true else (bif b==0 then (bif decide (wr .i64 (wr .i64 (56 * wr .i64 a.aa)+wr .i64 (a.ai.getD (scale 2 a.aa+scale 1 b).toNat 0)) < fI a a.aa 6) then true else (bif b==1 then (bif decide (wr .i64 (wr .i64 (56 * wr .i64 a.aa)+wr .i64 (a.ai.getD (scale 2 a.aa+scale 1 b).toNat 0)) > fI a a.aa 6) then true else (decide (0≤fI a a.aa 6)&&decide (fI a a.aa 6 < Int.ofNat 64)&&(decide (0≤wr .i64 (wr .i64 (56 * wr .i64 a.aa)+wr .i64 (a.ai.getD (scale 2 a.aa+scale 1 b).toNat 0)))&&decide (wr .i64 (wr .i64 (56 * wr .i64 a.aa)+wr .i64 (a.ai.getD (scale 2 a.aa+scale 1 b).toNat 0)) < Int.ofNat 64)&&((cB (wr .i64 (56 * wr .i64 a.aa)) (fI a a.aa 6) (wr .i64 (wr .i64 (56 * wr .i64 a.aa)+wr .i64 (a.ai.getD (scale 2 a.aa+scale 1 b).toNat 0))) (dD b).1 (dD b).2 a (Pos.mk a.variant ((a.ae.set (scale 1 (fI a a.aa 6)).toNat 0).set (scale 1 (wr .i64 (wr .i64 (56 * wr .i64 a.aa)+wr .i64 (a.ai.getD (scale 2 a.aa+scale 1 b).toNat 0)))).toNat 0) a.ab a.af a.aa a.ai a.ah a.ag a.half a.full) (wr .i64 (56 * wr .i64 a.aa))).isSome&&bif cq ((cB (wr .i64 (56 * wr .i64 a.aa)) (fI a a.aa 6) (wr .i64 (wr .i64 (56 * wr .i64 a.aa)+wr .i64 (a.ai.getD (scale 2 a.aa+scale 1 b).toNat 0))) (dD b).1 (dD b).2 a (Pos.mk a.variant ((a.ae.set (scale 1 (fI a a.aa 6)).toNat 0).set (scale 1 (wr .i64 (wr .i64 (56 * wr .i64 a.aa)+wr .i64 (a.ai.getD (scale 2 a.aa+scale 1 b).toNat 0)))).toNat 0) a.ab a.af a.aa a.ai a.ah a.ag a.half a.full) (wr .i64 (56 * wr .i64 a.aa))).getD default) then true else true)))) else (decide (0≤fI a a.aa 6)&&decide (fI a a.aa 6 < Int.ofNat 64)&&(decide (0≤wr .i64 (wr .i64 (56 * wr .i64 a.aa)+wr .i64 (a.ai.getD (scale 2 a.aa+scale 1 b).toNat 0)))&&decide (wr .i64 (wr .i64 (56 * wr .i64 a.aa)+wr .i64 (a.ai.getD (scale 2 a.aa+scale 1 b).toNat 0)) < Int.ofNat 64)&&((cB (wr .i64 (56 * wr .i64 a.aa)) (fI a a.aa 6) (wr .i64 (wr .i64 (56 * wr .i64 a.aa)+wr .i64 (a.ai.getD (scale 2 a.aa+scale 1 b).toNat 0))) (dD b).1 (dD b).2 a (Pos.mk a.variant ((a.ae.set (scale 1 (fI a a.aa 6)).toNat 0).set (scale 1 (wr .i64 (wr .i64 (56 * wr .i64 a.aa)+wr .i64 (a.ai.getD (scale 2 a.aa+scale 1 b).toNat 0)))).toNat 0) a.ab a.af a.aa a.ai a.ah a.ag a.half a.full) (wr .i64 (56 * wr .i64 a.aa))).isSome&&bif cq ((cB (wr .i64 (56 * wr .i64 a.aa)) (fI a a.aa 6) (wr .i64 (wr .i64 (56 * wr .i64 a.aa)+wr .i64 (a.ai.getD (scale 2 a.aa+scale 1 b).toNat 0))) (dD b).1 (dD b).2 a (Pos.mk a.variant ((a.ae.set (scale 1 (fI a a.aa 6)).toNat 0).set (scale 1 (wr .i64 (wr .i64 (56 * wr .i64 a.aa)+wr .i64 (a.ai.getD (scale 2 a.aa+scale 1 b).toNat 0)))).toNat 0) a.ab a.af a.aa a.ai a.ah a.ag a.half a.full) (wr .i64 (56 * wr .i64 a.aa))).getD default) then true else true))))) else (bif b==1 then (bif decide (wr .i64 (wr .i64 (56 * wr .i64 a.aa)+wr .i64 (a.ai.getD (scale 2 a.aa+scale 1 b).toNat 0)) > fI a a.aa 6) then true else (decide (0≤fI a a.aa 6)&&decide (fI a a.aa 6 < Int.ofNat 64)&&(decide (0≤wr .i64 (wr .i64 (56 * wr .i64 a.aa)+wr .i64 (a.ai.getD (scale 2 a.aa+scale 1 b).toNat 0)))&&decide (wr .i64 (wr .i64 (56 * wr .i64 a.aa)+wr .i64 (a.ai.getD (scale 2 a.aa+scale 1 b).toNat 0)) < Int.ofNat 64)&&((cB (wr .i64 (56 * wr .i64 a.aa)) (fI a a.aa 6) (wr .i64 (wr .i64 (56 * wr .i64 a.aa)+wr .i64 (a.ai.getD (scale 2 a.aa+scale 1 b).toNat 0))) (dD b).1 (dD b).2 a (Pos.mk a.variant ((a.ae.set (scale 1 (fI a a.aa 6)).toNat 0).set (scale 1 (wr .i64 (wr .i64 (56 * wr .i64 a.aa)+wr .i64 (a.ai.getD (scale 2 a.aa+scale 1 b).toNat 0)))).toNat 0) a.ab a.af a.aa a.ai a.ah a.ag a.half a.full) (wr .i64 (56 * wr .i64 a.aa))).isSome&&bif cq ((cB (wr .i64 (56 * wr .i64 a.aa)) (fI a a.aa 6) (wr .i64 (wr .i64 (56 * wr .i64 a.aa)+wr .i64 (a.ai.getD (scale 2 a.aa+scale 1 b).toNat 0))) (dD b).1 (dD b).2 a (Pos.mk a.variant ((a.ae.set (scale 1 (fI a a.aa 6)).toNat 0).set (scale 1 (wr .i64 (wr .i64 (56 * wr .i64 a.aa)+wr .i64 (a.ai.getD (scale 2 a.aa+scale 1 b).toNat 0)))).toNat 0) a.ab a.af a.aa a.ai a.ah a.ag a.half a.full) (wr .i64 (56 * wr .i64 a.aa))).getD default) then true else true)))) else (decide (0≤fI a a.aa 6)&&decide (fI a a.aa 6 < Int.ofNat 64)&&(decide (0≤wr .i64 (wr .i64 (56 * wr .i64 a.aa)+wr .i64 (a.ai.getD (scale 2 a.aa+scale 1 b).toNat 0)))&&decide (wr .i64 (wr .i64 (56 * wr .i64 a.aa)+wr .i64 (a.ai.getD (scale 2 a.aa+scale 1 b).toNat 0)) < Int.ofNat 64)&&((cB (wr .i64 (56 * wr .i64 a.aa)) (fI a a.aa 6) (wr .i64 (wr .i64 (56 * wr .i64 a.aa)+wr .i64 (a.ai.getD (scale 2 a.aa+scale 1 b).toNat 0))) (dD b).1 (dD b).2 a (Pos.mk a.variant ((a.ae.set (scale 1 (fI a a.aa 6)).toNat 0).set (scale 1 (wr .i64 (wr .i64 (56 * wr .i64 a.aa)+wr .i64 (a.ai.getD (scale 2 a.aa+scale 1 b).toNat 0)))).toNat 0) a.ab a.af a.aa a.ai a.ah a.ag a.half a.full) (wr .i64 (56 * wr .i64 a.aa))).isSome&&bif cq ((cB (wr .i64 (56 * wr .i64 a.aa)) (fI a a.aa 6) (wr .i64 (wr .i64 (56 * wr .i64 a.aa)+wr .i64 (a.ai.getD (scale 2 a.aa+scale 1 b).toNat 0))) (dD b).1 (dD b).2 a (Pos.mk a.variant ((a.ae.set (scale 1 (fI a a.aa 6)).toNat 0).set (scale 1 (wr .i64 (wr .i64 (56 * wr .i64 a.aa)+wr .i64 (a.ai.getD (scale 2 a.aa+scale 1 b).toNat 0)))).toNat 0) a.ab a.af a.aa a.ai a.ah a.ag a.half a.full) (wr .i64 (56 * wr .i64 a.aa))).getD default) then true else true))))))))))))))))
theorem ahs (a:Pos) (b:Int) (h:lq a b=true):PS Pz 166 [Pos.av a,.int .i64 b] ((d3 (dI .i64) (dI .i64) dB).res (ft a b)):=pq14 W8 h
def R5:GT:=g2 aZ (dI .i64) (fun a b=>bV (lq a b) ((d3 (dI .i64) (dI .i64) dB).res (ft a b)))
theorem Yz:Sound Pz 166 R5:=aW fun a b=>az (ahs a b)
def K85:KT:=[(85,29,[(0,[1]),(1,[1,3]),(2,[1,3,4]),(3,[1,3,4,9]),(4,[1,3,4]),(5,(1::(rn 3 5 []))),(6,(1::(rn 3 4 [19]))),(7,[1,3,4]),(8,[2])])]
def aaZ:ax:=bO Pz K85 [(166,R5)] [] []
theorem RQ:aV aaZ:=ak aj ⟨Yz,trivial⟩ trivial trivial
def P2 (p1:Pos) (p2:Nat) (x:((List Mv)×Int)):St:=St.mk (.any::.ptr 0 0::.any::.list .mv x.1 (.own 1)::.int .i64 x.2::(an 24 [])) (Hp.mk [(pc p1 [])] [p2,x.1.length] [] 0 0 0)
def PJ (p1:Pos) (p2:Nat):((List Mv)×Int×Bool)→Out:=fun y=>.exit 0 (St.mk (.any::.ptr 0 0::.any::.list .mv y.1 (.own 1)::.int .i64 y.2.1::(an 4 (.bool y.2.2::(an 19 [])))) (Hp.mk [(pc p1 [])] [p2,y.1.length] [] 0 0 0))
def xR (p1:Pos) (p2:Nat) (x:((List Mv)×Int)):aF ((List Mv)×Int) (((List Mv)×Int×Bool)):=(bif decide (x.2 ≥ 0) then (bif (ft p1 x.2).2.2 then (aF.go (x.1++[Mv.mk (wr .i8 (ft p1 x.2).1) (wr .i8 (ft p1 x.2).2.1) 0 0 true],wr .i64 (x.2 - 1))) else (aF.go (x.1,wr .i64 (x.2 - 1)))) else (aF.out ((x.1,x.2,decide (x.2 ≥ 0)))))
def rm (p1:Pos) (p2:Nat) (x:((List Mv)×Int)):Bool:=(bif decide (x.2 ≥ 0) then (lq (p1) (x.2)&&(bif (ft p1 x.2).2.2 then (x.1.length==x.1.length&&decide (x.1.length+1≤1073741824)&&true) else true)) else true)
def su (p1:Pos) (p2:Nat) (x:((List Mv)×Int)):Option (((List Mv)×Int×Bool)):=cP (fun x=>bif rm p1 p2 x then xR p1 p2 x else .bad) many x
abbrev P9 {α:Type} (k:Pos→Nat→((List Mv)×Int)→α) (s:St):α:=wP s 0 fun q0=>k q0 (tK s 0) ((tL (ET.mv) (tT s 3)),(tI (tT s 4)))
theorem Wu (p1:Pos) (p2:Nat) (x:((List Mv)×Int)) (r:((List Mv)×Int×Bool)) (h:su p1 p2 x=some r):aB Pz (bj Pz 85 3) (P2 p1 p2 x) (PJ p1 p2 r):=smq (m:=12) (fn:=85) RQ (P9 fun _ _ x=>some x) (fun o=>match o with | .exit 0 s=>some ((tL ET.mv (tT s 3)),(tI (tT s 4)),(tB (tT s 9))) | _=>none) many x r h
def O1 (b:Code) (s:St):Tr Out:=P9 (fun p1 p2 x=>lO b (bj Pz 85 3) s (P2 p1 p2 x) (su p1 p2 x) (PJ p1 p2)) s
theorem R8:∀ b,aY Pz b (O1 b):=fun _ _ _ h=>bS (Wu _ _ _) h
def B85:ax:=bO Pz K85 [(166,R5)] [(85,3,O1)] []
theorem ahX:aV B85:=ak aj ⟨Yz,trivial⟩ ⟨R8,trivial⟩ trivial
def JD (a:Pos):List Mv:=(((su a 0 ([],1)).getD default).1)
def BG (a:Pos):Bool:=((su a 0 ([],1)).isSome&&true)
theorem P85 (a:Pos) (h:BG a=true):PS Pz 85 [Pos.av a] ((dL .mv).res (JD a)):=pq14 ahX h
def G85:GT:=g1 aZ (fun a=>bV (BG a) ((dL .mv).res (JD a)))
theorem s85:Sound Pz 85 G85:=aH fun a=>az (P85 a)
def K86:KT:=[(86,61,[(0,(1::10::11::12::(rn 22 8 (rn 40 10 [])))),(1,(1::3::10::11::12::(rn 22 8 (rn 40 10 [])))),(2,(1::3::13::(rn 22 8 (rn 40 10 [])))),(3,[2]),(4,(1::3::4::(rn 22 8 (rn 40 10 [])))),(5,(1::3::4::16::(rn 22 8 (rn 40 10 [])))),(6,(1::3::4::(rn 22 8 (rn 40 10 [])))),(7,(1::3::4::5::(rn 22 8 (rn 40 10 [])))),(8,(1::3::4::5::(rn 22 9 (rn 40 10 [])))),(9,(1::3::4::5::(rn 22 8 (rn 40 10 [])))),(10,(1::3::4::5::(rn 22 8 (rn 40 11 [])))),(11,(1::3::4::5::(rn 22 8 (rn 40 10 [])))),(12,[2])])]
def VP:ax:=bO Pz K86 [(93,mJ)] [] []
theorem S8:aV VP:=ak aj ⟨mS,trivial⟩ trivial trivial
def PN (p1:Int) (p2:Pos) (p3:Nat) (x:((List Mv)×Int)):St:=St.mk (.any::.ptr 0 0::.any::.list .mv x.1 (.own 1)::.int .u8 p1::.int .i64 x.2::(an 55 [])) (Hp.mk [(pc p2 [])] [p3,x.1.length] [] 0 0 0)
def PA (p1:Int) (p2:Pos) (p3:Nat):((List Mv)×Int×Bool)→Out:=fun y=>.exit 2 (St.mk (.any::.ptr 0 0::.any::.list .mv y.1 (.own 1)::.int .u8 p1::.int .i64 y.2.1::(an 24 (.bool y.2.2::(an 30 [])))) (Hp.mk [(pc p2 [])] [p3,y.1.length] [] 0 0 0))
def sn (p1:Int) (p2:Pos) (p3:Nat) (x:((List Mv)×Int)):aF ((List Mv)×Int) (((List Mv)×Int×Bool)):=(bif decide (x.2 < 64) then (bif decide (p2.af.getD (scale 6 p2.aa+scale 1 p1).toNat 0 > 0) then (bif bA (p2.ae.getD (scale 1 x.2).toNat 0) != 0 then (aF.go (x.1,wr .i64 (x.2+1))) else (bif p1==1 then (bif decide (x.2 < 8) then (aF.go (x.1,wr .i64 (x.2+1))) else (bif decide (x.2 > 55) then (aF.go (x.1,wr .i64 (x.2+1))) else (aF.go (x.1++[Mv.mk (wr .i8 x.2) (wr .i8 x.2) 0 p1 false],wr .i64 (x.2+1))))) else (aF.go (x.1++[Mv.mk (wr .i8 x.2) (wr .i8 x.2) 0 p1 false],wr .i64 (x.2+1))))) else (aF.out ((x.1,x.2,decide (p2.af.getD (scale 6 p2.aa+scale 1 p1).toNat 0 > 0))))) else (aF.out ((x.1,x.2,false))))
def oU (p1:Int) (p2:Pos) (p3:Nat) (x:((List Mv)×Int)):Bool:=(bif decide (x.2 < 64) then (decide (0≤p2.aa)&&decide (p2.aa < Int.ofNat 2)&&(decide (0≤p1)&&decide (p1 < Int.ofNat 6)&&(bif decide (p2.af.getD (scale 6 p2.aa+scale 1 p1).toNat 0 > 0) then (decide (0≤x.2)&&decide (x.2 < Int.ofNat 64)&&(bif bA (p2.ae.getD (scale 1 x.2).toNat 0) != 0 then true else (bif p1==1 then (bif decide (x.2 < 8) then true else (bif decide (x.2 > 55) then true else (x.1.length==x.1.length&&decide (x.1.length+1≤1073741824)&&true))) else (x.1.length==x.1.length&&decide (x.1.length+1≤1073741824)&&true)))) else true))) else true)
def tJ (p1:Int) (p2:Pos) (p3:Nat) (x:((List Mv)×Int)):Option (((List Mv)×Int×Bool)):=cP (fun x=>bif oU p1 p2 p3 x then sn p1 p2 p3 x else .bad) many x
abbrev Qq {α:Type} (k:Int→Pos→Nat→((List Mv)×Int)→α) (s:St):α:=wP s 0 fun q0=>k (tI (tT s 4)) q0 (tK s 0) ((tL (ET.mv) (tT s 3)),(tI (tT s 5)))
theorem YP (p1:Int) (p2:Pos) (p3:Nat) (x:((List Mv)×Int)) (r:((List Mv)×Int×Bool)) (h:tJ p1 p2 p3 x=some r):aB Pz (bj Pz 86 8) (PN p1 p2 p3 x) (PA p1 p2 p3 r):=smq (m:=12) (fn:=86) S8 (Qq fun _ _ _ x=>some x) (fun o=>match o with | .exit 2 s=>some ((tL ET.mv (tT s 3)),(tI (tT s 5)),(tB (tT s 30))) | _=>none) many x r h
def Gj (b:Code) (s:St):Tr Out:=Qq (fun p1 p2 p3 x=>lO b (bj Pz 86 8) s (PN p1 p2 p3 x) (tJ p1 p2 p3 x) (PA p1 p2 p3)) s
theorem JQ:∀ b,aY Pz b (Gj b):=fun _ _ _ h=>bS (YP _ _ _ _) h
def aaW:ax:=bO Pz K86 [(93,mJ)] [(86,8,Gj)] []
theorem Sh:aV aaW:=ak aj ⟨mS,trivial⟩ ⟨JQ,trivial⟩ trivial
def OV (p1:Pos) (p2:Nat) (x:((List Mv)×Int)):St:=St.mk (.any::.ptr 0 0::.any::.list .mv x.1 (.own 1)::.int .u8 x.2::(an 56 [])) (Hp.mk [(pc p1 [])] [p2,x.1.length] [] 0 0 0)
def Rd (p1:Pos) (p2:Nat):((List Mv)×Int×Bool)→Out:=fun y=>.exit 0 (St.mk (.any::.ptr 0 0::.any::.list .mv y.1 (.own 1)::.int .u8 y.2.1::(an 11 (.bool y.2.2::(an 44 [])))) (Hp.mk [(pc p1 [])] [p2,y.1.length] [] 0 0 0))
def JP (p1:Pos) (p2:Nat) (x:((List Mv)×Int)):aF ((List Mv)×Int) (((List Mv)×Int×Bool)):=(bif decide (x.2≤5) then (aF.go (((tJ x.2 p1 p2 (x.1,0)).getD default).1,wr .u8 (x.2+1))) else (aF.out ((x.1,x.2,decide (x.2≤5)))))
def Ep (p1:Pos) (p2:Nat) (x:((List Mv)×Int)):Bool:=(bif decide (x.2≤5) then ((tJ x.2 p1 p2 (x.1,0)).isSome&&true) else true)
def o9 (p1:Pos) (p2:Nat) (x:((List Mv)×Int)):Option (((List Mv)×Int×Bool)):=cP (fun x=>bif Ep p1 p2 x then JP p1 p2 x else .bad) many x
abbrev P8 {α:Type} (k:Pos→Nat→((List Mv)×Int)→α) (s:St):α:=wP s 0 fun q0=>k q0 (tK s 0) ((tL (ET.mv) (tT s 3)),(tI (tT s 4)))
theorem aaP (p1:Pos) (p2:Nat) (x:((List Mv)×Int)) (r:((List Mv)×Int×Bool)) (h:o9 p1 p2 x=some r):aB Pz (bj Pz 86 5) (OV p1 p2 x) (Rd p1 p2 r):=smq (m:=12) (fn:=86) Sh (P8 fun _ _ x=>some x) (fun o=>match o with | .exit 0 s=>some ((tL ET.mv (tT s 3)),(tI (tT s 4)),(tB (tT s 16))) | _=>none) many x r h
def Rb (b:Code) (s:St):Tr Out:=P8 (fun p1 p2 x=>lO b (bj Pz 86 5) s (OV p1 p2 x) (o9 p1 p2 x) (Rd p1 p2)) s
theorem TZ:∀ b,aY Pz b (Rb b):=fun _ _ _ h=>bS (aaP _ _ _) h
def B86:ax:=bO Pz K86 [(93,mJ)] [(86,8,Gj),(86,5,Rb)] []
theorem ajI:aV B86:=ak aj ⟨mS,trivial⟩ ⟨JQ,TZ,trivial⟩ trivial
def Vt (a:Pos):List Mv:=(bif decide (a.aa > 1) then ([]) else (bif a.variant != 2 then ([]) else (((o9 a 0 ([],1)).getD default).1)))
def Iz (a:Pos):Bool:=(bif decide (a.aa > 1) then true else (bif a.variant != 2 then true else ((o9 a 0 ([],1)).isSome&&true)))
theorem P86 (a:Pos) (h:Iz a=true):PS Pz 86 [Pos.av a] ((dL .mv).res (Vt a)):=pq14 ajI h
def G86:GT:=g1 aZ (fun a=>bV (Iz a) ((dL .mv).res (Vt a)))
theorem s86:Sound Pz 86 G86:=aH fun a=>az (P86 a)
def K45:KT:=[(45,16,[(0,[1]),(1,[1,3]),(2,[1,3]),(3,[1,3]),(4,[2])])]
def B45:ax:=bO Pz K45 [(84,G84),(85,G85),(86,G86)] [] []
theorem ahc:aV B45:=ak aj ⟨s84,s85,s86,trivial⟩ trivial trivial
def D4 (a:Pos):List Mv:=([]++Gf a++JD a++Vt a)
def Fa (a:Pos):Bool:=(JY (a)&&(0==0&&decide (0+(Gf a).length≤1073741824)&&(BG (a)&&(([]++Gf a).length==([]++Gf a).length&&decide (([]++Gf a).length+(JD a).length≤1073741824)&&(Iz (a)&&(([]++Gf a++JD a).length==([]++Gf a++JD a).length&&decide (([]++Gf a++JD a).length+(Vt a).length≤1073741824)&&true))))))
theorem P45 (a:Pos) (h:Fa a=true):PS Pz 45 [Pos.av a] ((dL .mv).res (D4 a)):=pq14 ahc h
def G45:GT:=g1 aZ (fun a=>bV (Fa a) ((dL .mv).res (D4 a)))
theorem s45:Sound Pz 45 G45:=aH fun a=>az (P45 a)
def Xf:KT:=[(109,39,[(0,[1,2,16,17,22,23,24,34,35,36]),(1,[1,2,5,16,17,22,23,24,34,35,36]),(2,[1,2,5,18,22,23,24,34,35,36]),(3,[4]),(4,[1,2,5,6,22,23,24,34,35,36]),(5,(1::2::5::6::(rn 22 4 [34,35,36]))),(6,[1,2,5,6,22,23,24,34,35,36]),(7,(1::2::5::6::22::23::24::(rn 34 4 []))),(8,[4]),(9,[4])])]
def RK:ax:=bO Pz Xf [(44,VH),(82,Oy),(161,og),(169,yZ)] [] []
theorem Od:aV RK:=ak aj ⟨Zs,Qj,qa,Bb,trivial⟩ trivial trivial
def JI (p1:Int) (p2:Int) (p3:Pos) (x:(Int)):St:=St.mk (.any::.int .u8 p1::.ptr 0 0::.any::.any::.int .i64 p2::.int .i64 x::(an 32 [])) (Hp.mk [(pc p3 [])] [] [] 0 0 0)
def KF (p1:Int) (p2:Int) (p3:Pos):Unit ⊕ (Int×Bool)→Out
 | (.inl (y))=>.ret (St.mk (an 4 (AV.bH .i64 (-1)::(an 34 []))) (Hp.mk [(pc p3 [])] [] [] 0 0 0))
 | (.inr (y))=>.exit 0 (St.mk (AV.any::AV.int .u8 p1::AV.ptr 0 0::AV.any::AV.any::AV.int .i64 p2::AV.int .i64 y.1::(an 18 (AV.bool y.2::(an 13 [])))) (Hp.mk [(pc p3 [])] [] [] 0 0 0))
def nM (p1:Int) (p2:Int) (p3:Pos) (x:(Int)):aF (Int) (Unit ⊕ (Int×Bool)):=(bif decide (x < 64) then (bif p3.variant==3 then (bif qb (Pos.mk p3.variant p3.ae p3.ab p3.af p3.aa p3.ai p3.ah p3.ag p3.half p3.full) x (wr .u8 (1 - p1)) 6 then (bif iu x p2 then (aF.out (.inl (()))) else (aF.go (wr .i64 (x+1)))) else (aF.go (wr .i64 (x+1)))) else (aF.out (.inr ((x,p3.variant==3))))) else (aF.out (.inr ((x,false)))))
def ly (p1:Int) (p2:Int) (p3:Pos) (x:(Int)):Bool:=(bif decide (x < 64) then (bif p3.variant==3 then (mT (Pos.mk p3.variant p3.ae p3.ab p3.af p3.aa p3.ai p3.ah p3.ag p3.half p3.full) (x) (wr .u8 (1 - p1)) (6)&&true) else true) else true)
def mC (p1:Int) (p2:Int) (p3:Pos) (x:(Int)):Option (Unit ⊕ (Int×Bool)):=cP (fun x=>bif ly p1 p2 p3 x then nM p1 p2 p3 x else .bad) many x
abbrev K3 {α:Type} (k:Int→Int→Pos→(Int)→α) (s:St):α:=wP s 0 fun q0=>k (tI (tT s 1)) (tI (tT s 5)) q0 ((tI (tT s 6)))
theorem Uq (p1:Int) (p2:Int) (p3:Pos) (x:(Int)) (r:Unit ⊕ (Int×Bool)) (h:mC p1 p2 p3 x=some r):aB Pz (bj Pz 109 5) (JI p1 p2 p3 x) (KF p1 p2 p3 r):=aB.vF (m:=12) (fn:=109) Od (K3 fun _ _ _ x=>some x) (fun o=>match o with | .ret s=>some (.inl ()) | .exit 0 s=>some (.inr ((tI (tT s 6)),(tB (tT s 25)))) | _=>none) (fun r=>by cases r <;> rfl) (fun _=>by kernel_rfl) (fun _=>by kernel_rfl) (fun _=>by kernel_rfl) (fun _=>by kernel_rfl) many x r h
def I7 (b:Code) (s:St):Tr Out:=K3 (fun p1 p2 p3 x=>vM b (bj Pz 109 5) s (JI p1 p2 p3 x) (mC p1 p2 p3 x) (KF p1 p2 p3)) s
theorem NO:∀ b,aY Pz b (I7 b):=fun _ _ _ h=>dq (Uq _ _ _ _) h
def ac0:ax:=bO Pz Xf [(44,VH),(82,Oy),(161,og),(169,yZ)] [(109,5,I7)] []
theorem Xj:aV ac0:=ak aj ⟨Zs,Qj,qa,Bb,trivial⟩ ⟨NO,trivial⟩ trivial
def A4 (a:Pos) (b:Int):Int:=(bif !Gn a.variant b then (-1) else (bif decide (fI (Pos.mk a.variant a.ae a.ab a.af a.aa a.ai a.ah a.ag a.half a.full) b 6 < 0) then (-1) else (bif cq ((mC b (fI (Pos.mk a.variant a.ae a.ab a.af a.aa a.ai a.ah a.ag a.half a.full) b 6) (Pos.mk a.variant a.ae a.ab a.af a.aa a.ai a.ah a.ag a.half a.full) 0).getD default) then (-1) else (fI (Pos.mk a.variant a.ae a.ab a.af a.aa a.ai a.ah a.ag a.half a.full) b 6))))
def D7 (a:Pos) (b:Int):Bool:=(BV (Pos.mk a.variant a.ae a.ab a.af a.aa a.ai a.ah a.ag a.half a.full) (b) (6)&&(bif !Gn a.variant b then true else (bif decide (fI (Pos.mk a.variant a.ae a.ab a.af a.aa a.ai a.ah a.ag a.half a.full) b 6 < 0) then true else ((mC b (fI (Pos.mk a.variant a.ae a.ab a.af a.aa a.ai a.ah a.ag a.half a.full) b 6) (Pos.mk a.variant a.ae a.ab a.af a.aa a.ai a.ah a.ag a.half a.full) 0).isSome&&bif cq ((mC b (fI (Pos.mk a.variant a.ae a.ab a.af a.aa a.ai a.ah a.ag a.half a.full) b 6) (Pos.mk a.variant a.ae a.ab a.af a.aa a.ai a.ah a.ag a.half a.full) 0).getD default) then true else true))))
theorem aja (a:Pos) (b:Int) (h:D7 a b=true):PS Pz 109 [Pos.av a,.int .u8 b] ((dI .i64).res (A4 a b)):=pq14 Xj h
def Z8:GT:=g2 aZ (dI .u8) (fun a b=>bV (D7 a b) ((dI .i64).res (A4 a b)))
theorem afV:Sound Pz 109 Z8:=aW fun a b=>az (aja a b)
def K56:KT:=[(56,21,[(0,(1::2::(rn 14 6 []))),(1,(1::2::7::(rn 14 6 []))),(2,[4]),(3,(1::2::5::(rn 14 6 []))),(4,[4])])]
def B56:ax:=bO Pz K56 [(109,Z8),(110,Mj)] [] []
theorem ajL:aV B56:=ak aj ⟨afV,T8,trivial⟩ trivial trivial
def mM (a:Pos) (b:Int):Bool:=(bif decide (b > 1) then (false) else (bif decide (A4 a b ≥ 0) then (FN a (A4 a b) (wr .u8 (1 - b)) != 0#64) else (false)))
def iK (a:Pos) (b:Int):Bool:=(bif decide (b > 1) then true else (D7 (a) (b)&&(bif decide (A4 a b ≥ 0) then (vW (a) (A4 a b) (wr .u8 (1 - b))&&true) else true)))
theorem P56 (a:Pos) (b:Int) (h:iK a b=true):PS Pz 56 [Pos.av a,.int .u8 b] (dB.res (mM a b)):=pq14 ajL h
def Vv:GT:=g2 aZ (dI .u8) (fun a b=>bV (iK a b) (dB.res (mM a b)))
theorem s56:Sound Pz 56 Vv:=aW fun a b=>az (P56 a b)
def K46:KT:=[(46,48,[(0,(2::3::(rn 21 4 (rn 31 7 (rn 43 4 []))))),(1,(2::3::5::6::(rn 21 4 (rn 31 7 (rn 43 4 []))))),(2,(2::3::5::6::16::(rn 21 4 (rn 31 7 (rn 43 4 []))))),(3,(2::3::5::6::7::(rn 31 7 (rn 43 4 [])))),(4,(2::3::6::38::(rn 43 4 []))),(5,[4]),(6,[4])])]
def B46:ax:=bO Pz K46 [(56,Vv),(39,S3),(44,VH)] [] []
theorem aje:aV B46:=ak aj ⟨s56,Vu,Zs,trivial⟩ trivial trivial
def VB (a:Pos) (b:Pos):Bool:=(bif Gn a.variant a.aa then (bif a.variant==3 then (bif decide (oQ b a.aa < 0) then (false) else (bif !decide (oQ b (wr .u8 (1 - a.aa)) < 0) then (bif mM b a.aa then (false) else (bif a.variant != 8 then (true) else (!mM b (wr .u8 (1 - a.aa))))) else (bif a.variant != 8 then (true) else (!mM b (wr .u8 (1 - a.aa)))))) else (bif decide (oQ b a.aa < 0) then (false) else (bif mM b a.aa then (false) else (bif a.variant != 8 then (true) else (!mM b (wr .u8 (1 - a.aa))))))) else (bif a.variant != 8 then (true) else (!mM b (wr .u8 (1 - a.aa)))))
def I9 (a:Pos) (b:Pos):Bool:=(bif Gn a.variant a.aa then (bif a.variant==3 then (pq (b) (wr .u8 (1 - a.aa))&&(pq (b) (a.aa)&&(bif decide (oQ b a.aa < 0) then true else (bif !decide (oQ b (wr .u8 (1 - a.aa)) < 0) then (iK (b) (a.aa)&&(bif mM b a.aa then true else (bif a.variant != 8 then true else (iK (b) (wr .u8 (1 - a.aa))&&true)))) else (bif a.variant != 8 then true else (iK (b) (wr .u8 (1 - a.aa))&&true)))))) else (pq (b) (a.aa)&&(bif decide (oQ b a.aa < 0) then true else (iK (b) (a.aa)&&(bif mM b a.aa then true else (bif a.variant != 8 then true else (iK (b) (wr .u8 (1 - a.aa))&&true))))))) else (bif a.variant != 8 then true else (iK (b) (wr .u8 (1 - a.aa))&&true)))
theorem P46 (a:Pos) (b:Pos) (h:I9 a b=true):PS Pz 46 [Pos.av a,Pos.av b] (dB.res (VB a b)):=pq14 aje h
def G46:GT:=g2 aZ aZ (fun a b=>bV (I9 a b) (dB.res (VB a b)))
theorem s46:Sound Pz 46 G46:=aW fun a b=>az (P46 a b)
def aaG:KT:=[(171,21,[(0,[0,1]),(1,[1,5]),(2,[1,5,6]),(3,[1,5,6,12]),(4,[1,5,6]),(5,[1,5,6,20]),(6,[4]),(7,[4])])]
def SJ:ax:=bO Pz aaG [(165,Bg)] [] []
theorem MA:aV SJ:=ak aj ⟨E7,trivial⟩ trivial trivial
def KP (p1:Int) (p2:(List Int)) (x:(Int)):St:=St.mk (.any::.int .u8 p1::(an 3 (.list (ET.i .u8) p2 .fresh::.int .i64 x::(an 14 [])))) (Hp.mk [] [] [] 0 0 0)
def G2 (p1:Int) (p2:(List Int)):Unit ⊕ (Int×Bool)→Out
 | (.inl (y))=>.ret (St.mk (an 4 (AV.aP true::(an 16 []))) (Hp.mk [] [] [] 0 0 0))
 | (.inr (y))=>.exit 0 (St.mk (AV.any::AV.int .u8 p1::(an 3 (AV.list (ET.i .u8) p2 Tk.fresh::AV.int .i64 y.1::(an 5 (AV.bool y.2::(an 8 [])))))) (Hp.mk [] [] [] 0 0 0))
def CG (p1:Int) (p2:(List Int)) (x:(Int)):aF (Int) (Unit ⊕ (Int×Bool)):=(bif decide (x < Int.ofNat p2.length) then (bif p2.getD x.toNat default==p1 then (aF.out (.inl (()))) else (aF.go (wr .i64 (x+1)))) else (aF.out (.inr ((x,decide (x < Int.ofNat p2.length))))))
def AE (p1:Int) (p2:(List Int)) (x:(Int)):Bool:=(bif decide (x < Int.ofNat p2.length) then (decide (0≤x)&&decide (x < Int.ofNat p2.length)&&true) else true)
def mq (p1:Int) (p2:(List Int)) (x:(Int)):Option (Unit ⊕ (Int×Bool)):=cP (fun x=>bif AE p1 p2 x then CG p1 p2 x else .bad) many x
abbrev Kj {α:Type} (k:Int→(List Int)→(Int)→α) (s:St):α:=k (tI (tT s 1)) (tL (ET.i .u8) (tT s 5)) ((tI (tT s 6)))
theorem Sy (p1:Int) (p2:(List Int)) (x:(Int)) (r:Unit ⊕ (Int×Bool)) (h:mq p1 p2 x=some r):aB Pz (bj Pz 171 3) (KP p1 p2 x) (G2 p1 p2 r):=aB.vF (m:=12) (fn:=171) MA (Kj fun _ _ x=>some x) (fun o=>match o with | .ret s=>some (.inl ()) | .exit 0 s=>some (.inr ((tI (tT s 6)),(tB (tT s 12)))) | _=>none) (fun r=>by cases r <;> rfl) (fun _=>by kernel_rfl) (fun _=>by kernel_rfl) (fun _=>by kernel_rfl) (fun _=>by kernel_rfl) many x r h
def It (b:Code) (s:St):Tr Out:=Kj (fun p1 p2 x=>vM b (bj Pz 171 3) s (KP p1 p2 x) (mq p1 p2 x) (G2 p1 p2)) s
theorem MH:∀ b,aY Pz b (It b):=fun _ _ _ h=>dq (Sy _ _ _) h
def adM:ax:=bO Pz aaG [(165,Bg)] [(171,3,It)] []
theorem aag:aV adM:=ak aj ⟨E7,trivial⟩ ⟨MH,trivial⟩ trivial
def Gg (a:Int) (b:Int):Bool:=(bif cq ((mq b (jn a) 0).getD default) then (true) else (false))
def zP (a:Int) (b:Int):Bool:=((mq b (jn a) 0).isSome&&bif cq ((mq b (jn a) 0).getD default) then true else true)
theorem aeB (a:Int) (b:Int) (h:zP a b=true):PS Pz 171 [.int .u8 a,.int .u8 b] (dB.res (Gg a b)):=pq14 aag h
def Zt:GT:=g2 (dI .u8) (dI .u8) (fun a b=>bV (zP a b) (dB.res (Gg a b)))
theorem aeF:Sound Pz 171 Zt:=aW fun a b=>az (aeB a b)
def K95:KT:=[(95,69,[(0,(2::3::17::18::21::22::23::26::27::30::31::34::35::38::39::(rn 42 5 (rn 55 5 [])))),(1,(2::3::5::6::17::18::21::22::23::26::27::30::31::34::35::38::39::(rn 42 5 (rn 55 5 [])))),(2,(2::3::5::6::47::(rn 55 5 []))),(3,[4]),(4,[2,3,60]),(5,[4]),(6,[4])])]
def B95:ax:=bO Pz K95 [(38,LS),(93,mJ),(163,FE),(164,wG),(171,Zt)] [] []
theorem aiT:aV B95:=ak aj ⟨C6,mS,H6,zI,aeF,trivial⟩ trivial trivial
def Py (a:Pos) (b:Mv):Bool:=(bif !yd a then (false) else (bif b.bq then (false) else (bif b.aD != 0 then (false) else (bif decide (wr .i64 b.aw < 0) then (false) else (bif decide (wr .i64 b.aw > 63) then (false) else (bif decide (wr .i64 b.to < 0) then (false) else (bif decide (wr .i64 b.to > 63) then (false) else (bif !mE a (wr .i64 b.aw) (wr .i64 b.to) then (false) else (bif bA (a.ae.getD (scale 1 (wr .i64 b.aw)).toNat 0) != 1 then (b.aM==0) else (bif gW a.aa (wr .i64 b.to) != 7 then (b.aM==0) else (Gg a.variant b.aM)))))))))))
def Ch (a:Pos) (b:Mv):Bool:=(bif !yd a then true else (bif b.bq then true else (bif b.aD != 0 then true else (bif decide (wr .i64 b.aw < 0) then true else (bif decide (wr .i64 b.aw > 63) then true else (bif decide (wr .i64 b.to < 0) then true else (bif decide (wr .i64 b.to > 63) then true else (vB (a) (wr .i64 b.aw) (wr .i64 b.to)&&(bif !mE a (wr .i64 b.aw) (wr .i64 b.to) then true else (decide (0≤wr .i64 b.aw)&&decide (wr .i64 b.aw < Int.ofNat 64)&&(bif bA (a.ae.getD (scale 1 (wr .i64 b.aw)).toNat 0) != 1 then true else (bif gW a.aa (wr .i64 b.to) != 7 then true else (zP (a.variant) (b.aM)&&true)))))))))))))
theorem P95 (a:Pos) (b:Mv) (h:Ch a b=true):PS Pz 95 [Pos.av a,Mv.av b] (dB.res (Py a b)):=pq14 aiT h
def G95:GT:=g2 aZ jl (fun a b=>bV (Ch a b) (dB.res (Py a b)))
theorem s95:Sound Pz 95 G95:=aW fun a b=>az (P95 a b)
def K48:KT:=[(48,39,[(0,(2::3::(rn 26 7 []))),(1,(2::3::9::(rn 26 7 []))),(2,[4]),(3,(2::3::5::(rn 26 7 []))),(4,(2::3::5::16::(rn 26 7 []))),(5,[4]),(6,[2,5,33]),(7,[4]),(8,[4])])]
def B48:ax:=bO Pz K48 [(93,mJ),(95,G95),(96,G96),(97,ZR)] [] []
theorem ae9:aV B48:=ak aj ⟨mS,s95,s96,s97,trivial⟩ trivial trivial
def gZ (a:Pos) (b:Mv):Int:=(bif !Py a b then (-1) else (bif !zZ a (wr .i64 b.to) then (wr .i64 b.to) else (bif bA (a.ae.getD (scale 1 b.aw).toNat 0)==1 then (bif b.aw.tmod 8 != b.to.tmod 8 then (wr .i64 (wr .i64 b.to - fX a.aa)) else (-1)) else (-1))))
def wR (a:Pos) (b:Mv):Bool:=(Ch (a) (b)&&(bif !Py a b then true else (pn (a) (wr .i64 b.to)&&(bif !zZ a (wr .i64 b.to) then true else (decide (0≤b.aw)&&decide (b.aw < Int.ofNat 64)&&true)))))
theorem P48 (a:Pos) (b:Mv) (h:wR a b=true):PS Pz 48 [Pos.av a,Mv.av b] ((dI .i64).res (gZ a b)):=pq14 ae9 h
def VF:GT:=g2 aZ jl (fun a b=>bV (wR a b) ((dI .i64).res (gZ a b)))
theorem ZP:Sound Pz 48 VF:=aW fun a b=>az (P48 a b)
def aiV:KT:=[(167,65,[(0,(2::3::9::10::11::(rn 14 5 (21::22::23::26::27::28::31::32::33::36::37::38::(rn 41 8 (rn 51 8 [])))))),(1,[3,59]),(2,[4]),(3,[64]),(4,[4]),(5,[4])])]
def ab2:ax:=bO Pz aiV [] [] []
theorem XT:aV ab2:=ak aj trivial trivial trivial
def qg (a:Pos) (b:Mv):Int:=(bif decide (a.aa > 1) then (-1) else (bif !b.bq then (-1) else (bif b.aw==b.to then (-1) else (bif decide (b.aw < 0) then (-1) else (bif decide (b.aw > 63) then (-1) else (bif decide (b.to < 0) then (-1) else (bif decide (b.to > 63) then (-1) else (bif wr .i8 (b.aw.tdiv 8) != wr .i8 (wr .u8 (7 * a.aa)) then (-1) else (bif wr .i8 (b.to.tdiv 8) != wr .i8 (wr .u8 (7 * a.aa)) then (-1) else (bif decide (b.to > b.aw) then (0) else (1)))))))))))
def XK (a:Pos) (b:Mv):Bool:=true
theorem ach (a:Pos) (b:Mv) (h:XK a b=true):PS Pz 167 [Pos.av a,Mv.av b] ((dI .i64).res (qg a b)):=pq14 XT h
def Ok:GT:=g2 aZ jl (fun a b=>.ret ((dI .i64).res (qg a b)))
theorem RC:Sound Pz 167 Ok:=aW fun a b=>b7 (ach a b rfl)
def K87:KT:=[(87,116,[(0,[2,3,4,6]),(1,[2,3,4,6,7]),(2,[2,3,4,6,7,8]),(3,[2,3,4,6,7,8,20]),(4,(3::4::(rn 6 4 []))),(5,[3,4,6,7,8,10,11]),(6,[3,4,6,7,8,10,11,12]),(7,(4::6::7::8::(rn 10 4 []))),(8,(4::6::7::8::(rn 10 4 []))),(9,(6::7::8::(rn 10 4 []))),(10,[6,7,11,12,13]),(11,[6,7]),(12,[6]),(13,[2,3,4,6,7,8,61]),(14,[3,4,6,7]),(15,[6,7]),(16,[6]),(17,[2,3,4,6,7,8,89]),(18,[3,4,6,7,8]),(19,[3,4,6,7,8]),(20,[3,4,6,7]),(21,[3,4,6,7,104]),(22,[6,7]),(23,[6])])]
def B87:ax:=bO Pz K87 [(167,Ok),(168,EV)] [] []
theorem afH:aV B87:=ak aj ⟨RC,IK,trivial⟩ trivial trivial
def Ay (a:Pos) (b:Mv) (c:Int):Pos:=(bif b.bq then ⟨(a.variant),((((a.ae.set (scale 1 b.aw).toNat 0).set (scale 1 b.to).toNat 0).set (scale 1 (wr .i64 (wr .i64 (56 * wr .i64 a.aa)+(dD (qg a b)).1))).toNat (a.ae.getD (scale 1 b.aw).toNat 0)).set (scale 1 (wr .i64 (wr .i64 (56 * wr .i64 a.aa)+(dD (qg a b)).2))).toNat (a.ae.getD (scale 1 b.to).toNat 0)),(a.ab),(a.af),(a.aa),(a.ai),(a.ah),(a.ag),(a.half),(a.full)⟩ else (bif b.aD != 0 then ⟨(a.variant),(a.ae.set (scale 1 b.to).toNat (wr .u8 (wr .u8 (8 * a.aa)+b.aD))),(a.ab),(a.af.set (scale 6 a.aa+scale 1 b.aD).toNat (wr .u8 (a.af.getD (scale 6 a.aa+scale 1 b.aD).toNat 0 - 1))),(a.aa),(a.ai),(a.ah),(a.ag),(a.half),(a.full)⟩ else (bif decide (c ≥ 0) then (bif b.aM != 0 then ⟨(a.variant),((((a.ae.set (scale 1 c).toNat 0).set (scale 1 b.aw).toNat 0).set (scale 1 b.to).toNat (a.ae.getD (scale 1 b.aw).toNat 0)).set (scale 1 b.to).toNat (wr .u8 (wr .u8 (8 * a.aa)+b.aM))),(a.ab),(a.af),(a.aa),(a.ai),(a.ah),(a.ag),(a.half),(a.full)⟩ else ⟨(a.variant),(((a.ae.set (scale 1 c).toNat 0).set (scale 1 b.aw).toNat 0).set (scale 1 b.to).toNat (a.ae.getD (scale 1 b.aw).toNat 0)),(a.ab),(a.af),(a.aa),(a.ai),(a.ah),(a.ag),(a.half),(a.full)⟩) else (bif b.aM != 0 then ⟨(a.variant),(((a.ae.set (scale 1 b.aw).toNat 0).set (scale 1 b.to).toNat (a.ae.getD (scale 1 b.aw).toNat 0)).set (scale 1 b.to).toNat (wr .u8 (wr .u8 (8 * a.aa)+b.aM))),(a.ab),(a.af),(a.aa),(a.ai),(a.ah),(a.ag),(a.half),(a.full)⟩ else ⟨(a.variant),((a.ae.set (scale 1 b.aw).toNat 0).set (scale 1 b.to).toNat (a.ae.getD (scale 1 b.aw).toNat 0)),(a.ab),(a.af),(a.aa),(a.ai),(a.ah),(a.ag),(a.half),(a.full)⟩))))
def yq (a:Pos) (b:Mv) (c:Int):Bool:=(decide (0≤b.aw)&&decide (b.aw < Int.ofNat 64)&&(bif b.bq then (decide (0≤b.to)&&decide (b.to < Int.ofNat 64)&&(decide (0≤b.aw)&&decide (b.aw < Int.ofNat 64)&&(decide (0≤b.to)&&decide (b.to < Int.ofNat 64)&&(decide (0≤wr .i64 (wr .i64 (56 * wr .i64 a.aa)+(dD (qg a b)).1))&&decide (wr .i64 (wr .i64 (56 * wr .i64 a.aa)+(dD (qg a b)).1) < Int.ofNat 64)&&(decide (0≤wr .i64 (wr .i64 (56 * wr .i64 a.aa)+(dD (qg a b)).2))&&decide (wr .i64 (wr .i64 (56 * wr .i64 a.aa)+(dD (qg a b)).2) < Int.ofNat 64)&&true))))) else (bif b.aD != 0 then (decide (0≤a.aa)&&decide (a.aa < Int.ofNat 2)&&(decide (0≤b.aD)&&decide (b.aD < Int.ofNat 6)&&(decide (0≤a.aa)&&decide (a.aa < Int.ofNat 2)&&(decide (0≤b.aD)&&decide (b.aD < Int.ofNat 6)&&(decide (0≤b.to)&&decide (b.to < Int.ofNat 64)&&true))))) else (bif decide (c ≥ 0) then (decide (0≤c)&&decide (c < Int.ofNat 64)&&(decide (0≤b.aw)&&decide (b.aw < Int.ofNat 64)&&(decide (0≤b.to)&&decide (b.to < Int.ofNat 64)&&(bif b.aM != 0 then (decide (0≤b.to)&&decide (b.to < Int.ofNat 64)&&true) else true)))) else (decide (0≤b.aw)&&decide (b.aw < Int.ofNat 64)&&(decide (0≤b.to)&&decide (b.to < Int.ofNat 64)&&(bif b.aM != 0 then (decide (0≤b.to)&&decide (b.to < Int.ofNat 64)&&true) else true)))))))
theorem P87 (a:Pos) (b:Mv) (c:Int) (h:yq a b c=true):PS Pz 87 [Pos.av a,Mv.av b,.int .i64 c] (aZ.res (Ay a b c)):=pq14 afH h
def G87:GT:=g3 aZ jl (dI .i64) (fun a b c=>bV (yq a b c) (aZ.res (Ay a b c)))
theorem s87:Sound Pz 87 G87:=cw fun a b c=>az (P87 a b c)
def K90:KT:=[(90,11,[(0,[0,1]),(1,[4])])]
def B90:ax:=bO Pz K90 [] [] []
theorem afQ:aV B90:=ak aj trivial trivial trivial
def Bm (a:BitVec 64) (b:Int):Bool:=(a >>> (BitVec.ofInt 64 b).toNat&&&1#64==1#64)
def abR (a:BitVec 64) (b:Int):Bool:=true
theorem P90 (a:BitVec 64) (b:Int) (h:abR a b=true):PS Pz 90 [.u64 a,.int .i64 b] (dB.res (Bm a b)):=pq14 afQ h
def WH:GT:=g2 dU (dI .i64) (fun a b=>.ret (dB.res (Bm a b)))
theorem s90:Sound Pz 90 WH:=aW fun a b=>b7 (P90 a b rfl)
def K88:KT:=[(88,151,[(0,(rn 3 4 (8::19::20::21::(rn 73 5 (82::83::(rn 86 8 (115::116::117::(rn 120 5 (rn 135 6 []))))))))),(1,(rn 3 4 (8::22::(rn 73 5 (82::83::(rn 86 8 (115::116::117::(rn 120 5 (rn 135 6 []))))))))),(2,[8]),(3,(rn 3 4 (8::25::(rn 73 5 (82::83::(rn 86 8 (115::116::117::(rn 120 5 (rn 135 6 []))))))))),(4,[4,5,6,8,9]),(5,[4,5,6,8,11]),(6,[4,5,6,8,11,39]),(7,[4,5,8,11]),(8,[5,8]),(9,[8]),(10,(rn 3 4 (8::62::(rn 73 5 (82::83::(rn 86 8 (115::116::117::(rn 120 5 (rn 135 6 []))))))))),(11,(rn 3 4 (8::12::(rn 73 5 (82::83::(rn 86 8 (115::116::117::(rn 120 5 (rn 135 6 []))))))))),(12,(rn 3 4 (8::12::78::82::83::(rn 86 8 (115::116::117::(rn 120 5 (rn 135 6 []))))))),(13,(rn 3 4 (8::12::82::83::(rn 86 8 (115::116::117::(rn 120 5 (rn 135 6 []))))))),(14,(rn 3 4 (8::12::94::115::116::117::(rn 120 5 (rn 135 6 []))))),(15,(rn 3 4 (8::115::116::117::(rn 120 5 (rn 135 6 []))))),(16,(rn 3 4 (8::13::115::116::117::(rn 120 5 (rn 135 6 []))))),(17,(rn 3 4 (8::13::14::115::116::117::(rn 120 5 (rn 135 6 []))))),(18,(rn 3 4 (8::13::14::107::115::116::117::(rn 120 5 (rn 135 6 []))))),(19,(rn 3 4 (8::13::14::115::116::117::(rn 120 5 (rn 135 6 []))))),(20,(rn 3 4 (8::13::14::115::116::117::(rn 120 6 (rn 135 6 []))))),(21,(rn 3 4 (8::13::14::115::116::117::(rn 120 5 (rn 135 6 []))))),(22,[5,6,8,13,141]),(23,[5,8,13]),(24,[5,8]),(25,[8])])]
def Xh:ax:=bO Pz K88 [(93,mJ),(90,WH),(167,Ok),(168,EV)] [] []
theorem Tg:aV Xh:=ak aj ⟨mS,s90,RC,IK,trivial⟩ trivial trivial
def Ra (p1:Int) (p2:Pos) (p3:Pos) (p4:Mv) (x:((BitVec 64)×Int)):St:=St.mk (an 3 (.int .i64 p1::.ptr 0 0::.ptr 1 0::.ptr 2 0::.any::.ptr 3 0::(an 4 (.u64 x.1::.int .i64 x.2::(an 120 (.undef::.undef::.undef::.undef::.undef::.undef::(an 10 []))))))) (Hp.mk [(pc p2 []),(pc p3 []),[.int .i8 p4.aw,.int .i8 p4.to,.int .u8 p4.aM,.int .u8 p4.aD,.bool p4.bq],zpB] [] [] 0 0 0)
def Pl (p1:Int) (p2:Pos) (p3:Pos) (p4:Mv):((BitVec 64)×Int×Bool)→Out:=fun y=>.exit 0 (St.mk (an 3 (.int .i64 p1::.ptr 0 0::.ptr 1 0::.ptr 2 0::.any::.ptr 3 0::(an 4 (.u64 y.1::.int .i64 y.2.1::(an 92 (.bool y.2.2::(an 27 (.undef::.undef::.undef::.undef::.undef::.undef::(an 10 []))))))))) (Hp.mk [(pc p2 []),(pc p3 []),[.int .i8 p4.aw,.int .i8 p4.to,.int .u8 p4.aM,.int .u8 p4.aD,.bool p4.bq],zpB] [] [] 0 0 0))
def IW (p1:Int) (p2:Pos) (p3:Pos) (p4:Mv) (x:((BitVec 64)×Int)):aF ((BitVec 64)×Int) (((BitVec 64)×Int×Bool)):=(bif decide (x.2 < 64) then (bif Bm p2.ab x.2 then (bif x.2 != p1 then (bif x.2 != wr .i64 p4.aw then (aF.go (x.1|||1#64 <<< (BitVec.ofInt 64 x.2).toNat,wr .i64 (x.2+1))) else (aF.go (x.1,wr .i64 (x.2+1)))) else (aF.go (x.1,wr .i64 (x.2+1)))) else (aF.go (x.1,wr .i64 (x.2+1)))) else (aF.out ((x.1,x.2,decide (x.2 < 64)))))
def NS (p1:Int) (p2:Pos) (p3:Pos) (p4:Mv) (x:((BitVec 64)×Int)):Bool:=true
def eN (p1:Int) (p2:Pos) (p3:Pos) (p4:Mv) (x:((BitVec 64)×Int)):Option (((BitVec 64)×Int×Bool)):=cP (fun x=>bif NS p1 p2 p3 p4 x then IW p1 p2 p3 p4 x else .bad) many x
abbrev OW {α:Type} (k:Int→Pos→Pos→Mv→((BitVec 64)×Int)→α) (s:St):α:=wP s 0 fun q0=>wP s 1 fun q1=>wM s 2 fun q2=>k (tI (tT s 3)) q0 q1 q2 ((tU (tT s 13)),(tI (tT s 14)))
theorem VY (p1:Int) (p2:Pos) (p3:Pos) (p4:Mv) (x:((BitVec 64)×Int)) (r:((BitVec 64)×Int×Bool)) (h:eN p1 p2 p3 p4 x=some r):aB Pz (bj Pz 88 18) (Ra p1 p2 p3 p4 x) (Pl p1 p2 p3 p4 r):=smq (m:=12) (fn:=88) Tg (OW fun _ _ _ _ x=>some x) (fun o=>match o with | .exit 0 s=>some ((tU (tT s 13)),(tI (tT s 14)),(tB (tT s 107))) | _=>none) many x r h
def Ps (b:Code) (s:St):Tr Out:=OW (fun p1 p2 p3 p4 x=>lO b (bj Pz 88 18) s (Ra p1 p2 p3 p4 x) (eN p1 p2 p3 p4 x) (Pl p1 p2 p3 p4)) s
theorem UY:∀ b,aY Pz b (Ps b):=fun _ _ _ h=>bS (VY _ _ _ _ _) h
def B88:ax:=bO Pz K88 [(93,mJ),(90,WH),(167,Ok),(168,EV)] [(88,18,Ps)] []
theorem aic:aV B88:=ak aj ⟨mS,s90,RC,IK,trivial⟩ ⟨UY,trivial⟩ trivial
def zT (a:Pos) (b:Pos) (c:Mv) (d:Int):Pos:=let z1:=(bif c.aM != 0 then (Pos.mk b.variant b.ae (((eN d a b c (0#64,0)).getD default).1|||1#64 <<< (BitVec.ofInt 64 c.to).toNat) b.af b.aa b.ai b.ah b.ag b.half b.full) else (bif Bm a.ab (wr .i64 c.aw) then (Pos.mk b.variant b.ae (((eN d a b c (0#64,0)).getD default).1|||1#64 <<< (BitVec.ofInt 64 c.to).toNat) b.af b.aa b.ai b.ah b.ag b.half b.full) else (Pos.mk b.variant b.ae (((eN d a b c (0#64,0)).getD default).1) b.af b.aa b.ai b.ah b.ag b.half b.full))); let z2:=(bif decide (bA (a.ae.getD (scale 1 d).toNat 0) ≥ 1) then (bif decide (bA (a.ae.getD (scale 1 d).toNat 0)≤5) then (bif decide (b.af.getD (scale 6 a.aa+scale 1 (bA (a.ae.getD (scale 1 d).toNat 0))).toNat 0 < 255) then (bif c.aM != 0 then (Pos.mk b.variant b.ae (((eN d a (Pos.mk b.variant b.ae b.ab (b.af.set (scale 6 a.aa+scale 1 (bA (a.ae.getD (scale 1 d).toNat 0))).toNat (wr .u8 (b.af.getD (scale 6 a.aa+scale 1 (bA (a.ae.getD (scale 1 d).toNat 0))).toNat 0+1))) b.aa b.ai b.ah b.ag b.half b.full) c (0#64,0)).getD default).1|||1#64 <<< (BitVec.ofInt 64 c.to).toNat) (b.af.set (scale 6 a.aa+scale 1 (bA (a.ae.getD (scale 1 d).toNat 0))).toNat (wr .u8 (b.af.getD (scale 6 a.aa+scale 1 (bA (a.ae.getD (scale 1 d).toNat 0))).toNat 0+1))) b.aa b.ai b.ah b.ag b.half b.full) else (bif Bm a.ab (wr .i64 c.aw) then (Pos.mk b.variant b.ae (((eN d a (Pos.mk b.variant b.ae b.ab (b.af.set (scale 6 a.aa+scale 1 (bA (a.ae.getD (scale 1 d).toNat 0))).toNat (wr .u8 (b.af.getD (scale 6 a.aa+scale 1 (bA (a.ae.getD (scale 1 d).toNat 0))).toNat 0+1))) b.aa b.ai b.ah b.ag b.half b.full) c (0#64,0)).getD default).1|||1#64 <<< (BitVec.ofInt 64 c.to).toNat) (b.af.set (scale 6 a.aa+scale 1 (bA (a.ae.getD (scale 1 d).toNat 0))).toNat (wr .u8 (b.af.getD (scale 6 a.aa+scale 1 (bA (a.ae.getD (scale 1 d).toNat 0))).toNat 0+1))) b.aa b.ai b.ah b.ag b.half b.full) else (Pos.mk b.variant b.ae (((eN d a (Pos.mk b.variant b.ae b.ab (b.af.set (scale 6 a.aa+scale 1 (bA (a.ae.getD (scale 1 d).toNat 0))).toNat (wr .u8 (b.af.getD (scale 6 a.aa+scale 1 (bA (a.ae.getD (scale 1 d).toNat 0))).toNat 0+1))) b.aa b.ai b.ah b.ag b.half b.full) c (0#64,0)).getD default).1) (b.af.set (scale 6 a.aa+scale 1 (bA (a.ae.getD (scale 1 d).toNat 0))).toNat (wr .u8 (b.af.getD (scale 6 a.aa+scale 1 (bA (a.ae.getD (scale 1 d).toNat 0))).toNat 0+1))) b.aa b.ai b.ah b.ag b.half b.full))) else z1) else z1) else z1); let z3:=(b.af.set (scale 6 a.aa+scale 1 (Int.ofNat 1)).toNat (wr .u8 (b.af.getD (scale 6 a.aa+scale 1 (Int.ofNat 1)).toNat 0+1))); let z4:=(Pos.mk b.variant b.ae (((eN d a (Pos.mk b.variant b.ae b.ab z3 b.aa b.ai b.ah b.ag b.half b.full) c (0#64,0)).getD default).1|||1#64 <<< (BitVec.ofInt 64 c.to).toNat) z3 b.aa b.ai b.ah b.ag b.half b.full); let z5:=(Pos.mk b.variant b.ae b.ab b.af b.aa b.ai b.ah b.ag b.half b.full); (bif a.variant != 2 then z5 else (bif c.aD != 0 then z5 else (bif c.bq then (bif Bm a.ab (wr .i64 c.to) then (Pos.mk b.variant b.ae (a.ab &&& ~~~(1#64 <<< (BitVec.ofInt 64 c.to).toNat)|||1#64 <<< (BitVec.ofInt 64 (wr .i64 (wr .i64 (56 * wr .i64 a.aa)+(dD (qg a c)).2))).toNat) b.af b.aa b.ai b.ah b.ag b.half b.full) else z5) else (bif decide (d ≥ 0) then (bif Bm a.ab d then (bif a.ae.getD (scale 1 d).toNat 0 != 0 then (bif decide (b.af.getD (scale 6 a.aa+scale 1 (Int.ofNat 1)).toNat 0 < 255) then (bif c.aM != 0 then z4 else (bif Bm a.ab (wr .i64 c.aw) then z4 else (Pos.mk b.variant b.ae (((eN d a (Pos.mk b.variant b.ae b.ab z3 b.aa b.ai b.ah b.ag b.half b.full) c (0#64,0)).getD default).1) z3 b.aa b.ai b.ah b.ag b.half b.full))) else z1) else z2) else z2) else z1))))
def wJ (a:Pos) (b:Pos) (c:Mv) (d:Int):Bool:=let z2:=(scale 6 a.aa+scale 1 (Int.ofNat 1)); let z3:=((eN d a b c (0#64,0)).isSome&&true); let z4:=(a.aa < Int.ofNat 2); let z1:=(bif decide (bA (a.ae.getD (scale 1 d).toNat 0) ≥ 1) then (bif decide (bA (a.ae.getD (scale 1 d).toNat 0)≤5) then (decide (0≤a.aa)&&decide z4&&(decide (0≤bA (a.ae.getD (scale 1 d).toNat 0))&&decide (bA (a.ae.getD (scale 1 d).toNat 0) < Int.ofNat 6)&&(bif decide (b.af.getD (scale 6 a.aa+scale 1 (bA (a.ae.getD (scale 1 d).toNat 0))).toNat 0 < 255) then (decide (0≤a.aa)&&decide z4&&(decide (0≤bA (a.ae.getD (scale 1 d).toNat 0))&&decide (bA (a.ae.getD (scale 1 d).toNat 0) < Int.ofNat 6)&&(decide (0≤a.aa)&&decide z4&&(decide (0≤bA (a.ae.getD (scale 1 d).toNat 0))&&decide (bA (a.ae.getD (scale 1 d).toNat 0) < Int.ofNat 6)&&((eN d a (Pos.mk b.variant b.ae b.ab (b.af.set (scale 6 a.aa+scale 1 (bA (a.ae.getD (scale 1 d).toNat 0))).toNat (wr .u8 (b.af.getD (scale 6 a.aa+scale 1 (bA (a.ae.getD (scale 1 d).toNat 0))).toNat 0+1))) b.aa b.ai b.ah b.ag b.half b.full) c (0#64,0)).isSome&&true))))) else z3))) else z3) else z3); (bif a.variant != 2 then true else (bif c.aD != 0 then true else (bif c.bq then true else (bif decide (d ≥ 0) then (decide (0≤d)&&decide (d < Int.ofNat 64)&&(bif Bm a.ab d then (decide (0≤d)&&decide (d < Int.ofNat 64)&&(bif a.ae.getD (scale 1 d).toNat 0 != 0 then (decide (0≤a.aa)&&decide z4&&(bif decide (b.af.getD z2.toNat 0 < 255) then (decide (0≤a.aa)&&decide z4&&(decide (0≤a.aa)&&decide z4&&((eN d a (Pos.mk b.variant b.ae b.ab (b.af.set z2.toNat (wr .u8 (b.af.getD z2.toNat 0+1))) b.aa b.ai b.ah b.ag b.half b.full) c (0#64,0)).isSome&&true))) else z3)) else z1)) else z1)) else z3))))
theorem P88 (a:Pos) (b:Pos) (c:Mv) (d:Int) (h:wJ a b c d=true):PS Pz 88 [Pos.av a,Pos.av b,Mv.av c,.int .i64 d] (aZ.res (zT a b c d)):=pq14 aic h
def G88:GT:=g4 aZ aZ jl (dI .i64) (fun a b c d=>bV (wJ a b c d) (aZ.res (zT a b c d)))
theorem s88:Sound Pz 88 G88:=BT fun a b c d=>az (P88 a b c d)
def K89:KT:=[(89,47,[(0,(1::2::11::12::15::16::(rn 29 11 []))),(1,(1::2::5::11::12::15::16::(rn 29 11 []))),(2,(1::2::5::6::11::12::15::16::(rn 29 11 []))),(3,(1::2::5::6::11::12::15::16::17::(rn 29 11 []))),(4,(1::2::5::6::11::12::15::16::(rn 29 11 []))),(5,(1::2::5::6::7::11::12::15::16::(rn 29 11 []))),(6,(1::2::5::6::11::12::15::16::(rn 29 12 []))),(7,(1::2::5::6::11::12::15::16::(rn 29 11 []))),(8,[4])])]
def Xd:ax:=bO Pz K89 [(93,mJ),(169,yZ)] [] []
theorem T2:aV Xd:=ak aj ⟨mS,Bb,trivial⟩ trivial trivial
def Pg (p1:Int) (p2:Pos) (x:((BitVec 64)×Int)):St:=St.mk (.any::.int .i64 p1::.ptr 0 0::.any::.any::.u64 x.1::.int .i64 x.2::(an 40 [])) (Hp.mk [(pc p2 [])] [] [] 0 0 0)
def QC (p1:Int) (p2:Pos):((BitVec 64)×Int×Bool)→Out:=fun y=>.exit 0 (St.mk (.any::.int .i64 p1::.ptr 0 0::.any::.any::.u64 y.1::.int .i64 y.2.1::(an 10 (.bool y.2.2::(an 29 [])))) (Hp.mk [(pc p2 [])] [] [] 0 0 0))
def Kb (p1:Int) (p2:Pos) (x:((BitVec 64)×Int)):aF ((BitVec 64)×Int) (((BitVec 64)×Int×Bool)):=(bif decide (x.2 < 64) then (bif decide (p1 ≥ 0) then (bif decide (p1 < 64) then (bif x.2==p1 then (aF.go (x.1|||1#64 <<< (BitVec.ofInt 64 x.2).toNat,wr .i64 (x.2+1))) else (bif iu x.2 p1 then (bif bA (p2.ae.getD (scale 1 x.2).toNat 0) != 0 then (bif bA (p2.ae.getD (scale 1 x.2).toNat 0) != 1 then (aF.go (x.1|||1#64 <<< (BitVec.ofInt 64 x.2).toNat,wr .i64 (x.2+1))) else (aF.go (x.1,wr .i64 (x.2+1)))) else (aF.go (x.1,wr .i64 (x.2+1)))) else (aF.go (x.1,wr .i64 (x.2+1))))) else (aF.out ((x.1,x.2,decide (p1 < 64))))) else (aF.out ((x.1,x.2,false)))) else (aF.out ((x.1,x.2,false))))
def C1 (p1:Int) (p2:Pos) (x:((BitVec 64)×Int)):Bool:=(bif decide (x.2 < 64) then (bif decide (p1 ≥ 0) then (bif decide (p1 < 64) then (decide (0≤x.2)&&decide (x.2 < ↑64)&&true) else true) else true) else true)
def tD (p1:Int) (p2:Pos) (x:((BitVec 64)×Int)):Option (((BitVec 64)×Int×Bool)):=cP (fun x=>bif C1 p1 p2 x then Kb p1 p2 x else .bad) many x
abbrev Q8 {α:Type} (k:Int→Pos→((BitVec 64)×Int)→α) (s:St):α:=wP s 0 fun q0=>k (tI (tT s 1)) q0 ((tU (tT s 5)),(tI (tT s 6)))
theorem aao (p1:Int) (p2:Pos) (x:((BitVec 64)×Int)) (r:((BitVec 64)×Int×Bool)) (h:tD p1 p2 x=some r):aB Pz (bj Pz 89 3) (Pg p1 p2 x) (QC p1 p2 r):=smq (m:=12) (fn:=89) T2 (Q8 fun _ _ x=>some x) (fun o=>match o with | .exit 0 s=>some ((tU (tT s 5)),(tI (tT s 6)),(tB (tT s 17))) | _=>none) many x r h
def QL (b:Code) (s:St):Tr Out:=Q8 (fun p1 p2 x=>lO b (bj Pz 89 3) s (Pg p1 p2 x) (tD p1 p2 x) (QC p1 p2)) s
theorem Vr:∀ b,aY Pz b (QL b):=fun _ _ _ h=>bS (aao _ _ _) h
def B89:ax:=bO Pz K89 [(93,mJ),(169,yZ)] [(89,3,QL)] []
theorem agy:aV B89:=ak aj ⟨mS,Bb,trivial⟩ ⟨Vr,trivial⟩ trivial
def LZ (a:Pos) (b:Int):BitVec 64:=(((tD b (Pos.mk a.variant a.ae a.ab a.af a.aa a.ai a.ah a.ag a.half a.full) (0#64,0)).getD default).1)
def LB (a:Pos) (b:Int):Bool:=((tD b (Pos.mk a.variant a.ae a.ab a.af a.aa a.ai a.ah a.ag a.half a.full) (0#64,0)).isSome&&true)
theorem P89 (a:Pos) (b:Int) (h:LB a b=true):PS Pz 89 [Pos.av a,.int .i64 b] (dU.res (LZ a b)):=pq14 agy h
def G89:GT:=g2 aZ (dI .i64) (fun a b=>bV (LB a b) (dU.res (LZ a b)))
theorem s89:Sound Pz 89 G89:=aW fun a b=>az (P89 a b)
def K91:KT:=[(91,103,[(0,(rn 3 4 (8::(rn 20 7 (57::58::(rn 67 4 (rn 73 5 (80::81::82::(rn 85 10 []))))))))),(1,(rn 3 4 (8::27::57::58::(rn 67 4 (rn 73 5 (80::81::82::(rn 85 10 []))))))),(2,(3::5::6::8::57::58::(rn 67 4 (rn 73 5 (80::81::82::(rn 85 10 [])))))),(3,(3::5::6::8::9::57::58::(rn 67 4 (rn 73 5 (80::81::82::(rn 85 10 [])))))),(4,(3::5::6::8::9::34::57::58::(rn 67 4 (rn 73 5 (80::81::82::(rn 85 10 [])))))),(5,(3::5::6::8::9::57::58::(rn 67 4 (rn 73 5 (80::81::82::(rn 85 10 [])))))),(6,(3::5::6::8::9::10::57::58::(rn 67 4 (rn 73 5 (80::81::82::(rn 85 10 [])))))),(7,(3::5::6::(rn 8 4 (57::58::(rn 67 4 (rn 73 5 (80::81::82::(rn 85 10 [])))))))),(8,(3::5::6::(rn 8 5 (57::58::(rn 67 4 (rn 73 5 (80::81::82::(rn 85 10 [])))))))),(9,(3::5::6::(rn 8 5 (44::57::58::(rn 67 4 (rn 73 5 (80::81::82::(rn 85 10 [])))))))),(10,(3::5::6::(rn 8 5 (57::58::(rn 67 4 (rn 73 5 (80::81::82::(rn 85 10 [])))))))),(11,(3::5::6::(rn 8 6 (57::58::(rn 67 4 (rn 73 5 (80::81::82::(rn 85 10 [])))))))),(12,(3::5::6::(rn 8 6 (57::58::59::(rn 67 4 (rn 73 5 (80::81::82::(rn 85 10 [])))))))),(13,(3::5::6::(rn 8 5 (14::57::58::(rn 67 4 (rn 73 5 (80::81::82::(rn 85 10 [])))))))),(14,(3::5::6::(rn 8 5 (15::57::58::(rn 67 4 (rn 73 5 (80::81::82::(rn 85 10 [])))))))),(15,(3::5::6::(rn 8 5 (57::58::(rn 67 4 (rn 73 5 (80::81::82::(rn 85 10 [96])))))))),(16,(3::5::6::(rn 8 5 (57::58::(rn 67 4 (rn 73 5 (80::81::82::(rn 85 10 [])))))))),(17,[8])])]
def YD:ax:=bO Pz K91 [(93,mJ),(82,Oy),(161,og)] [] []
theorem SG:aV YD:=ak aj ⟨mS,Qj,qa,trivial⟩ trivial trivial
def Qu (p1:Int) (p2:Int) (p3:Int) (p4:Int) (p5:Pos) (p6:Mv) (x:(Int×Pos)):St:=St.mk (an 3 (.int .i64 p1::.any::.ptr 1 0::.ptr 2 0::.any::.ptr 3 0::.int .u8 p2::.int .i64 p3::.int .i64 p4::.int .i64 x.1::(an 90 []))) (Hp.mk [(pc p5 []),(pc x.2 []),[.int .i8 p6.aw,.int .i8 p6.to,.int .u8 p6.aM,.int .u8 p6.aD,.bool p6.bq],[.int .u8 0,.ints .u8 64 (List.replicate 64 0),.u64 0,.ints .u8 12 (List.replicate 12 0),.int .u8 0,.ints .i8 4 (List.replicate 4 0),.int .i8 0,.ints .u8 2 (List.replicate 2 0),.int .i64 0,.int .i64 0]] [] [] 0 0 0)
def QF (p1:Int) (p2:Int) (p3:Int) (p4:Int) (p5:Pos) (p6:Mv):(Int×Bool×Pos)→Out:=fun y=>.exit 2 (St.mk (an 3 (.int .i64 p1::.any::.ptr 1 0::.ptr 2 0::.any::.ptr 3 0::.int .u8 p2::.int .i64 p3::.int .i64 p4::.int .i64 y.1::(an 31 (.bool y.2.1::(an 58 []))))) (Hp.mk [(pc p5 []),(pc y.2.2 []),[.int .i8 p6.aw,.int .i8 p6.to,.int .u8 p6.aM,.int .u8 p6.aD,.bool p6.bq],[.int .u8 0,.ints .u8 64 (List.replicate 64 0),.u64 0,.ints .u8 12 (List.replicate 12 0),.int .u8 0,.ints .i8 4 (List.replicate 4 0),.int .i8 0,.ints .u8 2 (List.replicate 2 0),.int .i64 0,.int .i64 0]] [] [] 0 0 0))
def BN (p1:Int) (p2:Int) (p3:Int) (p4:Int) (p5:Pos) (p6:Mv) (x:(Int×Pos)):aF (Int×Pos) ((Int×Bool×Pos)):=(bif decide (x.1 < 2) then (bif decide (wr .i64 (x.2.ai.getD (scale 2 p2+scale 1 x.1).toNat 0) < 0) then (aF.go (wr .i64 (x.1+1),x.2)) else (bif decide (wr .i64 (x.2.ai.getD (scale 2 p2+scale 1 x.1).toNat 0) > 7) then (aF.go (wr .i64 (x.1+1),x.2)) else (bif decide (p4 < p3) then (aF.go (wr .i64 (x.1+1),Pos.mk x.2.variant x.2.ae x.2.ab x.2.af x.2.aa (x.2.ai.set (scale 2 p2+scale 1 x.1).toNat (-1)) x.2.ah x.2.ag x.2.half x.2.full)) else (bif decide (p4 > wr .i64 (p3+7)) then (aF.go (wr .i64 (x.1+1),Pos.mk x.2.variant x.2.ae x.2.ab x.2.af x.2.aa (x.2.ai.set (scale 2 p2+scale 1 x.1).toNat (-1)) x.2.ah x.2.ag x.2.half x.2.full)) else (bif !qb x.2 (wr .i64 (p3+wr .i64 (x.2.ai.getD (scale 2 p2+scale 1 x.1).toNat 0))) p2 4 then (aF.go (wr .i64 (x.1+1),Pos.mk x.2.variant x.2.ae x.2.ab x.2.af x.2.aa (x.2.ai.set (scale 2 p2+scale 1 x.1).toNat (-1)) x.2.ah x.2.ag x.2.half x.2.full)) else (bif p1==wr .i64 (p3+wr .i64 (x.2.ai.getD (scale 2 p2+scale 1 x.1).toNat 0)) then (aF.go (wr .i64 (x.1+1),Pos.mk x.2.variant x.2.ae x.2.ab x.2.af x.2.aa (x.2.ai.set (scale 2 p2+scale 1 x.1).toNat (-1)) x.2.ah x.2.ag x.2.half x.2.full)) else (bif p6.aD==0 then (bif wr .i64 p6.aw==wr .i64 (p3+wr .i64 (x.2.ai.getD (scale 2 p2+scale 1 x.1).toNat 0)) then (aF.go (wr .i64 (x.1+1),Pos.mk x.2.variant x.2.ae x.2.ab x.2.af x.2.aa (x.2.ai.set (scale 2 p2+scale 1 x.1).toNat (-1)) x.2.ah x.2.ag x.2.half x.2.full)) else (aF.go (wr .i64 (x.1+1),x.2))) else (aF.go (wr .i64 (x.1+1),x.2))))))))) else (aF.out ((x.1,decide (x.1 < 2),x.2))))
def wi (p1:Int) (p2:Int) (p3:Int) (p4:Int) (p5:Pos) (p6:Mv) (x:(Int×Pos)):Bool:=(bif decide (x.1 < 2) then (decide (0≤p2)&&decide (p2 < Int.ofNat 2)&&(decide (0≤x.1)&&decide (x.1 < Int.ofNat 2)&&(bif decide (wr .i64 (x.2.ai.getD (scale 2 p2+scale 1 x.1).toNat 0) < 0) then true else (bif decide (wr .i64 (x.2.ai.getD (scale 2 p2+scale 1 x.1).toNat 0) > 7) then true else (bif decide (p4 < p3) then (decide (0≤p2)&&decide (p2 < Int.ofNat 2)&&(decide (0≤x.1)&&decide (x.1 < Int.ofNat 2)&&true)) else (bif decide (p4 > wr .i64 (p3+7)) then (decide (0≤p2)&&decide (p2 < Int.ofNat 2)&&(decide (0≤x.1)&&decide (x.1 < Int.ofNat 2)&&true)) else (mT (x.2) (wr .i64 (p3+wr .i64 (x.2.ai.getD (scale 2 p2+scale 1 x.1).toNat 0))) (p2) (4)&&(bif !qb x.2 (wr .i64 (p3+wr .i64 (x.2.ai.getD (scale 2 p2+scale 1 x.1).toNat 0))) p2 4 then (decide (0≤p2)&&decide (p2 < Int.ofNat 2)&&(decide (0≤x.1)&&decide (x.1 < Int.ofNat 2)&&true)) else (bif p1==wr .i64 (p3+wr .i64 (x.2.ai.getD (scale 2 p2+scale 1 x.1).toNat 0)) then (decide (0≤p2)&&decide (p2 < Int.ofNat 2)&&(decide (0≤x.1)&&decide (x.1 < Int.ofNat 2)&&true)) else (bif p6.aD==0 then (bif wr .i64 p6.aw==wr .i64 (p3+wr .i64 (x.2.ai.getD (scale 2 p2+scale 1 x.1).toNat 0)) then (decide (0≤p2)&&decide (p2 < Int.ofNat 2)&&(decide (0≤x.1)&&decide (x.1 < Int.ofNat 2)&&true)) else true) else true)))))))))) else true)
def ti (p1:Int) (p2:Int) (p3:Int) (p4:Int) (p5:Pos) (p6:Mv) (x:(Int×Pos)):Option ((Int×Bool×Pos)):=cP (fun x=>bif wi p1 p2 p3 p4 p5 p6 x then BN p1 p2 p3 p4 p5 p6 x else .bad) many x
abbrev Pa {α:Type} (k:Int→Int→Int→Int→Pos→Mv→(Int×Pos)→α) (s:St):α:=wP s 0 fun q0=>wP s 1 fun q1=>wM s 2 fun q2=>k (tI (tT s 3)) (tI (tT s 9)) (tI (tT s 10)) (tI (tT s 11)) q0 q2 ((tI (tT s 12)),q1)
theorem WG (p1:Int) (p2:Int) (p3:Int) (p4:Int) (p5:Pos) (p6:Mv) (x:(Int×Pos)) (r:(Int×Bool×Pos)) (h:ti p1 p2 p3 p4 p5 p6 x=some r):aB Pz (bj Pz 91 9) (Qu p1 p2 p3 p4 p5 p6 x) (QF p1 p2 p3 p4 p5 p6 r):=smq (m:=12) (fn:=91) SG (Pa fun _ _ _ _ _ _ x=>some x) (fun o=>match o with | .exit 2 s=>wP s 1 fun q1=>some ((tI (tT s 12)),(tB (tT s 44)),q1) | _=>none) many x r h
def Gv (b:Code) (s:St):Tr Out:=Pa (fun p1 p2 p3 p4 p5 p6 x=>lO b (bj Pz 91 9) s (Qu p1 p2 p3 p4 p5 p6 x) (ti p1 p2 p3 p4 p5 p6 x) (QF p1 p2 p3 p4 p5 p6)) s
theorem Lh:∀ b,aY Pz b (Gv b):=fun _ _ _ h=>bS (WG _ _ _ _ _ _ _) h
def aak:ax:=bO Pz K91 [(93,mJ),(82,Oy),(161,og)] [(91,9,Gv)] []
theorem Sr:aV aak:=ak aj ⟨mS,Qj,qa,trivial⟩ ⟨Lh,trivial⟩ trivial
def Qk (p1:Int) (p2:Pos) (p3:Mv) (x:(Int×Pos)):St:=St.mk (an 3 (.int .i64 p1::.any::.ptr 1 0::.ptr 2 0::.any::.ptr 3 0::.int .u8 x.1::(an 93 []))) (Hp.mk [(pc p2 []),(pc x.2 []),[.int .i8 p3.aw,.int .i8 p3.to,.int .u8 p3.aM,.int .u8 p3.aD,.bool p3.bq],[.int .u8 0,.ints .u8 64 (List.replicate 64 0),.u64 0,.ints .u8 12 (List.replicate 12 0),.int .u8 0,.ints .i8 4 (List.replicate 4 0),.int .i8 0,.ints .u8 2 (List.replicate 2 0),.int .i64 0,.int .i64 0]] [] [] 0 0 0)
def QQ (p1:Int) (p2:Pos) (p3:Mv):(Int×Bool×Pos)→Out:=fun y=>.exit 0 (St.mk (an 3 (.int .i64 p1::.any::.ptr 1 0::.ptr 2 0::.any::.ptr 3 0::.int .u8 y.1::(an 24 (.bool y.2.1::(an 68 []))))) (Hp.mk [(pc p2 []),(pc y.2.2 []),[.int .i8 p3.aw,.int .i8 p3.to,.int .u8 p3.aM,.int .u8 p3.aD,.bool p3.bq],[.int .u8 0,.ints .u8 64 (List.replicate 64 0),.u64 0,.ints .u8 12 (List.replicate 12 0),.int .u8 0,.ints .i8 4 (List.replicate 4 0),.int .i8 0,.ints .u8 2 (List.replicate 2 0),.int .i64 0,.int .i64 0]] [] [] 0 0 0))
def Km (p1:Int) (p2:Pos) (p3:Mv) (x:(Int×Pos)):aF (Int×Pos) ((Int×Bool×Pos)):=(bif decide (x.1 < 2) then (aF.go (wr .u8 (x.1+1),((ti p1 x.1 (wr .i64 (56 * wr .i64 x.1)) (fI x.2 x.1 6) p2 p3 (0,x.2)).getD default).2.2)) else (aF.out ((x.1,decide (x.1 < 2),x.2))))
def CH (p1:Int) (p2:Pos) (p3:Mv) (x:(Int×Pos)):Bool:=(bif decide (x.1 < 2) then (BV (x.2) (x.1) (6)&&((ti p1 x.1 (wr .i64 (56 * wr .i64 x.1)) (fI x.2 x.1 6) p2 p3 (0,x.2)).isSome&&true)) else true)
def lR (p1:Int) (p2:Pos) (p3:Mv) (x:(Int×Pos)):Option ((Int×Bool×Pos)):=cP (fun x=>bif CH p1 p2 p3 x then Km p1 p2 p3 x else .bad) many x
abbrev OZ {α:Type} (k:Int→Pos→Mv→(Int×Pos)→α) (s:St):α:=wP s 0 fun q0=>wP s 1 fun q1=>wM s 2 fun q2=>k (tI (tT s 3)) q0 q2 ((tI (tT s 9)),q1)
theorem aas (p1:Int) (p2:Pos) (p3:Mv) (x:(Int×Pos)) (r:(Int×Bool×Pos)) (h:lR p1 p2 p3 x=some r):aB Pz (bj Pz 91 4) (Qk p1 p2 p3 x) (QQ p1 p2 p3 r):=smq (m:=12) (fn:=91) Sr (OZ fun _ _ _ x=>some x) (fun o=>match o with | .exit 0 s=>wP s 1 fun q1=>some ((tI (tT s 9)),(tB (tT s 34)),q1) | _=>none) many x r h
def Rr (b:Code) (s:St):Tr Out:=OZ (fun p1 p2 p3 x=>lO b (bj Pz 91 4) s (Qk p1 p2 p3 x) (lR p1 p2 p3 x) (QQ p1 p2 p3)) s
theorem S4:∀ b,aY Pz b (Rr b):=fun _ _ _ h=>bS (aas _ _ _ _) h
def B91:ax:=bO Pz K91 [(93,mJ),(82,Oy),(161,og)] [(91,9,Gv),(91,4,Rr)] []
theorem aeu:aV B91:=ak aj ⟨mS,Qj,qa,trivial⟩ ⟨Lh,S4,trivial⟩ trivial
def Oi (a:Pos) (b:Pos) (c:Mv) (d:Int):Pos:=let z1:=((lR d a c (0,Pos.mk b.variant b.ae b.ab b.af b.aa (List.take (scale 2 a.aa).toNat b.ai++((List.replicate 2 0).set 0 (-1)).set 1 (-1)++List.drop ((scale 2 a.aa).toNat+2) b.ai) b.ah b.ag b.half b.full)).getD default); let z2:=((lR d a c (0,b)).getD default); let z3:=(Pos.mk (z2.2.2.variant) (z2.2.2.ae) (z2.2.2.ab) (z2.2.2.af) (z2.2.2.aa) (z2.2.2.ai) (z2.2.2.ah) (z2.2.2.ag) (z2.2.2.half) (z2.2.2.full)); (bif c.aD==0 then (bif bA (a.ae.getD (scale 1 c.aw).toNat 0)==6 then (Pos.mk (z1.2.2.variant) (z1.2.2.ae) (z1.2.2.ab) (z1.2.2.af) (z1.2.2.aa) (z1.2.2.ai) (z1.2.2.ah) (z1.2.2.ag) (z1.2.2.half) (z1.2.2.full)) else z3) else z3)
def EW (a:Pos) (b:Pos) (c:Mv) (d:Int):Bool:=let z1:=((lR d a c (0,b)).isSome&&true); (bif c.aD==0 then (decide (0≤c.aw)&&decide (c.aw < Int.ofNat 64)&&(bif bA (a.ae.getD (scale 1 c.aw).toNat 0)==6 then (decide (0≤a.aa)&&decide (a.aa < Int.ofNat 2)&&((lR d a c (0,Pos.mk b.variant b.ae b.ab b.af b.aa (List.take (scale 2 a.aa).toNat b.ai++((List.replicate 2 0).set 0 (-1)).set 1 (-1)++List.drop ((scale 2 a.aa).toNat+2) b.ai) b.ah b.ag b.half b.full)).isSome&&true)) else z1)) else z1)
theorem P91 (a:Pos) (b:Pos) (c:Mv) (d:Int) (h:EW a b c d=true):PS Pz 91 [Pos.av a,Pos.av b,Mv.av c,.int .i64 d] (aZ.res (Oi a b c d)):=pq14 aeu h
def G91:GT:=g4 aZ aZ jl (dI .i64) (fun a b c d=>bV (EW a b c d) (aZ.res (Oi a b c d)))
theorem s91:Sound Pz 91 G91:=BT fun a b c d=>az (P91 a b c d)
def K92:KT:=[(92,69,[(0,(3::4::5::14::15::(rn 18 7 (rn 41 5 (rn 58 6 []))))),(1,(3::4::5::25::(rn 41 5 (rn 58 6 [])))),(2,[6]),(3,(3::4::5::7::(rn 41 5 (rn 58 6 [])))),(4,(3::4::5::7::8::(rn 41 5 (rn 58 6 [])))),(5,(3::4::7::8::46::(rn 58 6 []))),(6,[6]),(7,(3::4::7::8::9::(rn 58 6 []))),(8,(3::4::7::8::9::48::(rn 58 6 []))),(9,(3::4::7::8::9::(rn 58 6 []))),(10,(3::4::7::8::9::(rn 58 7 []))),(11,[6]),(12,[6])])]
def XM:ax:=bO Pz K92 [(93,mJ),(97,ZR),(161,og),(170,BH),(164,wG)] [] []
theorem Vn:aV XM:=ak aj ⟨mS,s97,qa,E6,zI,trivial⟩ trivial trivial
def Qz (p1:Int) (p2:Int) (p3:Pos) (p4:Pos) (p5:Mv) (x:(Int)):St:=St.mk (an 3 (.ptr 0 0::.ptr 1 0::.any::.any::.int .i64 p1::.int .i64 p2::.int .i64 x::(an 59 []))) (Hp.mk [(pc p3 []),(pc p4 []),[.int .i8 p5.aw,.int .i8 p5.to,.int .u8 p5.aM,.int .u8 p5.aD,.bool p5.bq]] [] [] 0 0 0)
def PK (p1:Int) (p2:Int) (p3:Pos) (p4:Pos) (p5:Mv):Unit ⊕ (Int×Bool)→Out
 | (.inl (y))=>.ret (St.mk (an 6 (AV.int .i8 (wr .i8 (wr .i64 (p2+p1)))::(an 62 []))) (Hp.mk [(pc p3 []),(pc p4 []),[AV.int .i8 p5.aw,AV.int .i8 p5.to,AV.int .u8 p5.aM,AV.int .u8 p5.aD,AV.bool p5.bq]] [] [] 0 0 0))
 | (.inr (y))=>.exit 0 (St.mk (an 3 (AV.ptr 0 0::AV.ptr 1 0::AV.any::AV.any::AV.int .i64 p1::AV.int .i64 p2::AV.int .i64 y.1::(an 38 (AV.bool y.2::(an 20 []))))) (Hp.mk [(pc p3 []),(pc p4 []),[AV.int .i8 p5.aw,AV.int .i8 p5.to,AV.int .u8 p5.aM,AV.int .u8 p5.aD,AV.bool p5.bq]] [] [] 0 0 0))
def LM (p1:Int) (p2:Int) (p3:Pos) (p4:Pos) (p5:Mv) (x:(Int)):aF (Int) (Unit ⊕ (Int×Bool)):=(bif decide (x < 64) then (bif qb p4 x (wr .u8 (1 - p3.aa)) 1 then (bif np p4 x (wr .i64 (p2+p1)) then (aF.out (.inl (()))) else (aF.go (wr .i64 (x+1)))) else (aF.go (wr .i64 (x+1)))) else (aF.out (.inr ((x,decide (x < 64))))))
def Dg (p1:Int) (p2:Int) (p3:Pos) (p4:Pos) (p5:Mv) (x:(Int)):Bool:=(bif decide (x < 64) then (mT (p4) (x) (wr .u8 (1 - p3.aa)) (1)&&(bif qb p4 x (wr .u8 (1 - p3.aa)) 1 then (nF (p4) (x) (wr .i64 (p2+p1))&&true) else true)) else true)
def o8 (p1:Int) (p2:Int) (p3:Pos) (p4:Pos) (p5:Mv) (x:(Int)):Option (Unit ⊕ (Int×Bool)):=cP (fun x=>bif Dg p1 p2 p3 p4 p5 x then LM p1 p2 p3 p4 p5 x else .bad) many x
abbrev PX {α:Type} (k:Int→Int→Pos→Pos→Mv→(Int)→α) (s:St):α:=wP s 0 fun q0=>wP s 1 fun q1=>wM s 2 fun q2=>k (tI (tT s 7)) (tI (tT s 8)) q0 q1 q2 ((tI (tT s 9)))
theorem Zj (p1:Int) (p2:Int) (p3:Pos) (p4:Pos) (p5:Mv) (x:(Int)) (r:Unit ⊕ (Int×Bool)) (h:o8 p1 p2 p3 p4 p5 x=some r):aB Pz (bj Pz 92 8) (Qz p1 p2 p3 p4 p5 x) (PK p1 p2 p3 p4 p5 r):=aB.vF (m:=12) (fn:=92) Vn (PX fun _ _ _ _ _ x=>some x) (fun o=>match o with | .ret s=>some (.inl ()) | .exit 0 s=>some (.inr ((tI (tT s 9)),(tB (tT s 48)))) | _=>none) (fun r=>by cases r <;> rfl) (fun _=>by kernel_rfl) (fun _=>by kernel_rfl) (fun _=>by kernel_rfl) (fun _=>by kernel_rfl) many x r h
def Qc (b:Code) (s:St):Tr Out:=PX (fun p1 p2 p3 p4 p5 x=>vM b (bj Pz 92 8) s (Qz p1 p2 p3 p4 p5 x) (o8 p1 p2 p3 p4 p5 x) (PK p1 p2 p3 p4 p5)) s
theorem UX:∀ b,aY Pz b (Qc b):=fun _ _ _ h=>dq (Zj _ _ _ _ _ _) h
def B92:ax:=bO Pz K92 [(93,mJ),(97,ZR),(161,og),(170,BH),(164,wG)] [(92,8,Qc)] []
theorem ac4:aV B92:=ak aj ⟨mS,s97,qa,E6,zI,trivial⟩ ⟨UX,trivial⟩ trivial
def eF (a:Pos) (b:Pos) (c:Mv):Int:=(bif c.aD != 0 then (-1) else (bif c.bq then (-1) else (bif bA (a.ae.getD (scale 1 c.aw).toNat 0) != 1 then (-1) else (bif wr .i64 c.to != wr .i64 (wr .i64 c.aw+wr .i64 (2 * fX a.aa)) then (-1) else (bif gW a.aa (wr .i64 c.aw) != 1 then (-1) else (bif cq ((o8 (fX a.aa) (wr .i64 c.aw) a b c 0).getD default) then (wr .i8 (wr .i64 (wr .i64 c.aw+fX a.aa))) else (-1)))))))
def FQ (a:Pos) (b:Pos) (c:Mv):Bool:=(bif c.aD != 0 then true else (bif c.bq then true else (decide (0≤c.aw)&&decide (c.aw < Int.ofNat 64)&&(bif bA (a.ae.getD (scale 1 c.aw).toNat 0) != 1 then true else (bif wr .i64 c.to != wr .i64 (wr .i64 c.aw+wr .i64 (2 * fX a.aa)) then true else (bif gW a.aa (wr .i64 c.aw) != 1 then true else ((o8 (fX a.aa) (wr .i64 c.aw) a b c 0).isSome&&bif cq ((o8 (fX a.aa) (wr .i64 c.aw) a b c 0).getD default) then true else true)))))))
theorem P92 (a:Pos) (b:Pos) (c:Mv) (h:FQ a b c=true):PS Pz 92 [Pos.av a,Pos.av b,Mv.av c] ((dI .i8).res (eF a b c)):=pq14 ac4 h
def G92:GT:=g3 aZ aZ jl (fun a b c=>bV (FQ a b c) ((dI .i8).res (eF a b c)))
theorem s92:Sound Pz 92 G92:=cw fun a b c=>az (P92 a b c)
def K94:KT:=[(94,8,[(0,[0]),(1,[0,4]),(2,[2]),(3,[2])])]
def B94:ax:=bO Pz K94 [] [] []
theorem adr:aV B94:=ak aj trivial trivial trivial
def dQ (a:Int):Int:=(bif decide (a ≥ 10000) then (a) else (wr .i64 (a+1)))
def acn (a:Int):Bool:=true
theorem P94 (a:Int) (h:acn a=true):PS Pz 94 [.int .i64 a] ((dI .i64).res (dQ a)):=pq14 adr h
def G94:GT:=g1 (dI .i64) (fun a=>.ret ((dI .i64).res (dQ a)))
theorem s94:Sound Pz 94 G94:=aH fun a=>b7 (P94 a rfl)
def K47:KT:=[(47,118,[(0,(2::3::4::26::27::(rn 58 12 (77::78::(rn 96 6 (rn 104 4 [])))))),(1,(rn 2 4 (26::27::(rn 58 12 (77::78::(rn 96 6 (rn 104 4 []))))))),(2,(rn 2 5 (26::27::(rn 58 12 (77::78::(rn 96 6 (rn 104 4 []))))))),(3,(rn 2 5 (26::27::(rn 58 12 (77::78::(rn 96 6 (rn 104 4 []))))))),(4,(rn 2 5 (28::(rn 58 12 (77::78::(rn 96 6 (rn 104 4 []))))))),(5,(rn 2 6 (rn 58 12 (77::78::(rn 96 6 (rn 104 4 [])))))),(6,(rn 2 7 (rn 58 12 (77::78::(rn 96 6 (rn 104 4 [])))))),(7,(rn 2 7 (35::(rn 58 12 (77::78::(rn 96 6 (rn 104 4 []))))))),(8,(rn 2 7 (rn 58 12 (77::78::(rn 96 6 (rn 104 4 [])))))),(9,(rn 2 7 (40::(rn 58 12 (77::78::(rn 96 6 (rn 104 4 []))))))),(10,(rn 2 7 (rn 58 12 (77::78::(rn 96 6 (rn 104 4 [])))))),(11,(rn 2 5 (rn 58 12 (77::78::(rn 96 6 (rn 104 4 [])))))),(12,(rn 2 5 (rn 58 12 (77::78::(rn 96 6 (rn 104 4 [])))))),(13,(2::4::5::6::9::77::78::(rn 96 6 (rn 104 4 [])))),(14,(2::4::5::6::9::77::78::(rn 96 6 (rn 104 4 [])))),(15,(2::4::6::79::(rn 96 6 (rn 104 4 [])))),(16,(2::4::6::(rn 96 6 (rn 104 4 [])))),(17,(2::4::6::83::(rn 96 6 (rn 104 4 [])))),(18,(2::4::6::(rn 96 6 (rn 104 4 [])))),(19,(2::4::6::(rn 96 6 (rn 104 4 [])))),(20,[2,4,6,108]),(21,[4,6]),(22,[4])])]
def WS:ax:=bO Pz K47 [(56,Vv),(48,VF),(93,mJ),(87,G87),(88,G88),(89,G89),(90,WH),(91,G91),(92,G92),(94,G94)] [] []
theorem TG:aV WS:=ak aj ⟨s56,ZP,mS,s87,s88,s89,s90,s91,s92,s94,trivial⟩ trivial trivial
def Pb (p1:Int) (p2:(BitVec 64)) (p3:Pos) (p4:Mv) (x:(Int×Pos)):St:=St.mk (.any::.any::.ptr 0 0::.ptr 1 0::.ptr 2 0::.int .i64 p1::.ptr 3 0::.u64 p2::.int .i64 x.1::(an 49 (.undef::.undef::.undef::.undef::.undef::.undef::.undef::.undef::.undef::.undef::.undef::.undef::(an 7 (.undef::.undef::(an 17 (.undef::.undef::.undef::.undef::.undef::.undef::.any::.any::.undef::.undef::.undef::.undef::(an 10 [])))))))) (Hp.mk [(pc p3 []),[.int .i8 p4.aw,.int .i8 p4.to,.int .u8 p4.aM,.int .u8 p4.aD,.bool p4.bq],zpB,(pc x.2 [])] [] [] 0 0 0)
def Qe (p1:Int) (p2:(BitVec 64)) (p3:Pos) (p4:Mv):(Int×Bool×Pos)→Out:=fun y=>.exit 0 (St.mk (.any::.any::.ptr 0 0::.ptr 1 0::.ptr 2 0::.int .i64 p1::.ptr 3 0::.u64 p2::.int .i64 y.1::(an 26 (.bool y.2.1::(an 22 (.undef::.undef::.undef::.undef::.undef::.undef::.undef::.undef::.undef::.undef::.undef::.undef::(an 7 (.undef::.undef::(an 17 (.undef::.undef::.undef::.undef::.undef::.undef::.any::.any::.undef::.undef::.undef::.undef::(an 10 [])))))))))) (Hp.mk [(pc p3 []),[.int .i8 p4.aw,.int .i8 p4.to,.int .u8 p4.aM,.int .u8 p4.aD,.bool p4.bq],zpB,(pc y.2.2 [])] [] [] 0 0 0))
def Ku (p1:Int) (p2:(BitVec 64)) (p3:Pos) (p4:Mv) (x:(Int×Pos)):aF (Int×Pos) ((Int×Bool×Pos)):=(bif decide (x.1 < 64) then (bif Bm p2 x.1 then (aF.go (wr .i64 (x.1+1),Pos.mk x.2.variant (x.2.ae.set (scale 1 x.1).toNat 0) x.2.ab x.2.af x.2.aa x.2.ai x.2.ah x.2.ag x.2.half x.2.full)) else (aF.go (wr .i64 (x.1+1),x.2))) else (aF.out ((x.1,decide (x.1 < 64),x.2))))
def CA (p1:Int) (p2:(BitVec 64)) (p3:Pos) (p4:Mv) (x:(Int×Pos)):Bool:=(bif decide (x.1 < 64) then (bif Bm p2 x.1 then (decide (0≤x.1)&&decide (x.1 < Int.ofNat 64)&&true) else true) else true)
def lX (p1:Int) (p2:(BitVec 64)) (p3:Pos) (p4:Mv) (x:(Int×Pos)):Option ((Int×Bool×Pos)):=cP (fun x=>bif CA p1 p2 p3 p4 x then Ku p1 p2 p3 p4 x else .bad) many x
abbrev O3 {α:Type} (k:Int→(BitVec 64)→Pos→Mv→(Int×Pos)→α) (s:St):α:=wP s 0 fun q0=>wP s 3 fun q3=>wM s 1 fun q1=>k (tI (tT s 5)) (tU (tT s 7)) q0 q1 ((tI (tT s 8)),q3)
theorem aaj (p1:Int) (p2:(BitVec 64)) (p3:Pos) (p4:Mv) (x:(Int×Pos)) (r:(Int×Bool×Pos)) (h:lX p1 p2 p3 p4 x=some r):aB Pz (bj Pz 47 7) (Pb p1 p2 p3 p4 x) (Qe p1 p2 p3 p4 r):=smq (m:=12) (fn:=47) TG (O3 fun _ _ _ _ x=>some x) (fun o=>match o with | .exit 0 s=>wP s 3 fun q3=>some ((tI (tT s 8)),(tB (tT s 35)),q3) | _=>none) many x r h
def Qo (b:Code) (s:St):Tr Out:=O3 (fun p1 p2 p3 p4 x=>lO b (bj Pz 47 7) s (Pb p1 p2 p3 p4 x) (lX p1 p2 p3 p4 x) (Qe p1 p2 p3 p4)) s
theorem UR:∀ b,aY Pz b (Qo b):=fun _ _ _ h=>bS (aaj _ _ _ _ _) h
def B47:ax:=bO Pz K47 [(56,Vv),(48,VF),(93,mJ),(87,G87),(88,G88),(89,G89),(90,WH),(91,G91),(92,G92),(94,G94)] [(47,7,Qo)] []
theorem ags:aV B47:=ak aj ⟨s56,ZP,mS,s87,s88,s89,s90,s91,s92,s94,trivial⟩ ⟨UR,trivial⟩ trivial
def Af (a:Pos) (b:Mv):Pos:=let z1:=(Oi a ((lX (gZ a b) (LZ (zT a (Ay a b (gZ a b)) b (gZ a b)) (wr .i64 b.to)) a b (0,zT a (Ay a b (gZ a b)) b (gZ a b))).getD default).2.2 b (gZ a b)); let z2:=(Oi a (zT a (Ay a b (gZ a b)) b (gZ a b)) b (gZ a b)); let z3:=(bif a.aa==1 then (bif z2.variant==5 then (bif decide (z2.ag.getD (scale 1 a.aa).toNat 0 < 3) then (bif mM (Pos.mk z2.variant z2.ae z2.ab z2.af (wr .u8 (1 - a.aa)) z2.ai (eF a z2 b) z2.ag 0 (dQ a.full)) (wr .u8 (1 - a.aa)) then (Pos.mk (z2.variant) (z2.ae) (z2.ab) (z2.af) (wr .u8 (1 - a.aa)) (z2.ai) (eF a z2 b) (z2.ag.set (scale 1 a.aa).toNat (wr .u8 (z2.ag.getD (scale 1 a.aa).toNat 0+1))) 0 (dQ a.full)) else (Pos.mk (z2.variant) (z2.ae) (z2.ab) (z2.af) (wr .u8 (1 - a.aa)) (z2.ai) (eF a z2 b) (z2.ag) 0 (dQ a.full))) else (Pos.mk (z2.variant) (z2.ae) (z2.ab) (z2.af) (wr .u8 (1 - a.aa)) (z2.ai) (eF a z2 b) (z2.ag) 0 (dQ a.full))) else (Pos.mk (z2.variant) (z2.ae) (z2.ab) (z2.af) (wr .u8 (1 - a.aa)) (z2.ai) (eF a z2 b) (z2.ag) 0 (dQ a.full))) else (bif z2.variant==5 then (bif decide (z2.ag.getD (scale 1 a.aa).toNat 0 < 3) then (bif mM (Pos.mk z2.variant z2.ae z2.ab z2.af (wr .u8 (1 - a.aa)) z2.ai (eF a z2 b) z2.ag 0 z2.full) (wr .u8 (1 - a.aa)) then (Pos.mk (z2.variant) (z2.ae) (z2.ab) (z2.af) (wr .u8 (1 - a.aa)) (z2.ai) (eF a z2 b) (z2.ag.set (scale 1 a.aa).toNat (wr .u8 (z2.ag.getD (scale 1 a.aa).toNat 0+1))) 0 (z2.full)) else (Pos.mk (z2.variant) (z2.ae) (z2.ab) (z2.af) (wr .u8 (1 - a.aa)) (z2.ai) (eF a z2 b) (z2.ag) 0 (z2.full))) else (Pos.mk (z2.variant) (z2.ae) (z2.ab) (z2.af) (wr .u8 (1 - a.aa)) (z2.ai) (eF a z2 b) (z2.ag) 0 (z2.full))) else (Pos.mk (z2.variant) (z2.ae) (z2.ab) (z2.af) (wr .u8 (1 - a.aa)) (z2.ai) (eF a z2 b) (z2.ag) 0 (z2.full)))); let z4:=(bif decide (gZ a b ≥ 0) then z3 else (bif a.aa==1 then (bif z2.variant==5 then (bif decide (z2.ag.getD (scale 1 a.aa).toNat 0 < 3) then (bif mM (Pos.mk z2.variant z2.ae z2.ab z2.af (wr .u8 (1 - a.aa)) z2.ai (eF a z2 b) z2.ag (dQ a.half) (dQ a.full)) (wr .u8 (1 - a.aa)) then (Pos.mk (z2.variant) (z2.ae) (z2.ab) (z2.af) (wr .u8 (1 - a.aa)) (z2.ai) (eF a z2 b) (z2.ag.set (scale 1 a.aa).toNat (wr .u8 (z2.ag.getD (scale 1 a.aa).toNat 0+1))) (dQ a.half) (dQ a.full)) else (Pos.mk (z2.variant) (z2.ae) (z2.ab) (z2.af) (wr .u8 (1 - a.aa)) (z2.ai) (eF a z2 b) (z2.ag) (dQ a.half) (dQ a.full))) else (Pos.mk (z2.variant) (z2.ae) (z2.ab) (z2.af) (wr .u8 (1 - a.aa)) (z2.ai) (eF a z2 b) (z2.ag) (dQ a.half) (dQ a.full))) else (Pos.mk (z2.variant) (z2.ae) (z2.ab) (z2.af) (wr .u8 (1 - a.aa)) (z2.ai) (eF a z2 b) (z2.ag) (dQ a.half) (dQ a.full))) else (bif z2.variant==5 then (bif decide (z2.ag.getD (scale 1 a.aa).toNat 0 < 3) then (bif mM (Pos.mk z2.variant z2.ae z2.ab z2.af (wr .u8 (1 - a.aa)) z2.ai (eF a z2 b) z2.ag (dQ a.half) z2.full) (wr .u8 (1 - a.aa)) then (Pos.mk (z2.variant) (z2.ae) (z2.ab) (z2.af) (wr .u8 (1 - a.aa)) (z2.ai) (eF a z2 b) (z2.ag.set (scale 1 a.aa).toNat (wr .u8 (z2.ag.getD (scale 1 a.aa).toNat 0+1))) (dQ a.half) (z2.full)) else (Pos.mk (z2.variant) (z2.ae) (z2.ab) (z2.af) (wr .u8 (1 - a.aa)) (z2.ai) (eF a z2 b) (z2.ag) (dQ a.half) (z2.full))) else (Pos.mk (z2.variant) (z2.ae) (z2.ab) (z2.af) (wr .u8 (1 - a.aa)) (z2.ai) (eF a z2 b) (z2.ag) (dQ a.half) (z2.full))) else (Pos.mk (z2.variant) (z2.ae) (z2.ab) (z2.af) (wr .u8 (1 - a.aa)) (z2.ai) (eF a z2 b) (z2.ag) (dQ a.half) (z2.full))))); let z5:=(bif a.aa==1 then (bif z1.variant==5 then (bif decide (z1.ag.getD (scale 1 a.aa).toNat 0 < 3) then (bif mM (Pos.mk z1.variant z1.ae z1.ab z1.af (wr .u8 (1 - a.aa)) z1.ai (eF a z1 b) z1.ag 0 (dQ a.full)) (wr .u8 (1 - a.aa)) then (Pos.mk (z1.variant) (z1.ae) (z1.ab) (z1.af) (wr .u8 (1 - a.aa)) (z1.ai) (eF a z1 b) (z1.ag.set (scale 1 a.aa).toNat (wr .u8 (z1.ag.getD (scale 1 a.aa).toNat 0+1))) 0 (dQ a.full)) else (Pos.mk (z1.variant) (z1.ae) (z1.ab) (z1.af) (wr .u8 (1 - a.aa)) (z1.ai) (eF a z1 b) (z1.ag) 0 (dQ a.full))) else (Pos.mk (z1.variant) (z1.ae) (z1.ab) (z1.af) (wr .u8 (1 - a.aa)) (z1.ai) (eF a z1 b) (z1.ag) 0 (dQ a.full))) else (Pos.mk (z1.variant) (z1.ae) (z1.ab) (z1.af) (wr .u8 (1 - a.aa)) (z1.ai) (eF a z1 b) (z1.ag) 0 (dQ a.full))) else (bif z1.variant==5 then (bif decide (z1.ag.getD (scale 1 a.aa).toNat 0 < 3) then (bif mM (Pos.mk z1.variant z1.ae z1.ab z1.af (wr .u8 (1 - a.aa)) z1.ai (eF a z1 b) z1.ag 0 z1.full) (wr .u8 (1 - a.aa)) then (Pos.mk (z1.variant) (z1.ae) (z1.ab) (z1.af) (wr .u8 (1 - a.aa)) (z1.ai) (eF a z1 b) (z1.ag.set (scale 1 a.aa).toNat (wr .u8 (z1.ag.getD (scale 1 a.aa).toNat 0+1))) 0 (z1.full)) else (Pos.mk (z1.variant) (z1.ae) (z1.ab) (z1.af) (wr .u8 (1 - a.aa)) (z1.ai) (eF a z1 b) (z1.ag) 0 (z1.full))) else (Pos.mk (z1.variant) (z1.ae) (z1.ab) (z1.af) (wr .u8 (1 - a.aa)) (z1.ai) (eF a z1 b) (z1.ag) 0 (z1.full))) else (Pos.mk (z1.variant) (z1.ae) (z1.ab) (z1.af) (wr .u8 (1 - a.aa)) (z1.ai) (eF a z1 b) (z1.ag) 0 (z1.full)))); let z6:=(bif decide (gZ a b ≥ 0) then z5 else (bif a.aa==1 then (bif z1.variant==5 then (bif decide (z1.ag.getD (scale 1 a.aa).toNat 0 < 3) then (bif mM (Pos.mk z1.variant z1.ae z1.ab z1.af (wr .u8 (1 - a.aa)) z1.ai (eF a z1 b) z1.ag (dQ a.half) (dQ a.full)) (wr .u8 (1 - a.aa)) then (Pos.mk (z1.variant) (z1.ae) (z1.ab) (z1.af) (wr .u8 (1 - a.aa)) (z1.ai) (eF a z1 b) (z1.ag.set (scale 1 a.aa).toNat (wr .u8 (z1.ag.getD (scale 1 a.aa).toNat 0+1))) (dQ a.half) (dQ a.full)) else (Pos.mk (z1.variant) (z1.ae) (z1.ab) (z1.af) (wr .u8 (1 - a.aa)) (z1.ai) (eF a z1 b) (z1.ag) (dQ a.half) (dQ a.full))) else (Pos.mk (z1.variant) (z1.ae) (z1.ab) (z1.af) (wr .u8 (1 - a.aa)) (z1.ai) (eF a z1 b) (z1.ag) (dQ a.half) (dQ a.full))) else (Pos.mk (z1.variant) (z1.ae) (z1.ab) (z1.af) (wr .u8 (1 - a.aa)) (z1.ai) (eF a z1 b) (z1.ag) (dQ a.half) (dQ a.full))) else (bif z1.variant==5 then (bif decide (z1.ag.getD (scale 1 a.aa).toNat 0 < 3) then (bif mM (Pos.mk z1.variant z1.ae z1.ab z1.af (wr .u8 (1 - a.aa)) z1.ai (eF a z1 b) z1.ag (dQ a.half) z1.full) (wr .u8 (1 - a.aa)) then (Pos.mk (z1.variant) (z1.ae) (z1.ab) (z1.af) (wr .u8 (1 - a.aa)) (z1.ai) (eF a z1 b) (z1.ag.set (scale 1 a.aa).toNat (wr .u8 (z1.ag.getD (scale 1 a.aa).toNat 0+1))) (dQ a.half) (z1.full)) else (Pos.mk (z1.variant) (z1.ae) (z1.ab) (z1.af) (wr .u8 (1 - a.aa)) (z1.ai) (eF a z1 b) (z1.ag) (dQ a.half) (z1.full))) else (Pos.mk (z1.variant) (z1.ae) (z1.ab) (z1.af) (wr .u8 (1 - a.aa)) (z1.ai) (eF a z1 b) (z1.ag) (dQ a.half) (z1.full))) else (Pos.mk (z1.variant) (z1.ae) (z1.ab) (z1.af) (wr .u8 (1 - a.aa)) (z1.ai) (eF a z1 b) (z1.ag) (dQ a.half) (z1.full))))); let z7:=(bif b.aD==1 then z3 else (bif b.aD==0 then (bif bA (a.ae.getD (scale 1 b.aw).toNat 0)==1 then z3 else z4) else z4)); (bif a.variant==3 then (bif decide (gZ a b ≥ 0) then (bif b.aD==1 then z5 else (bif b.aD==0 then (bif bA (a.ae.getD (scale 1 b.aw).toNat 0)==1 then z5 else z6) else z6)) else z7) else z7)
def Ex (a:Pos) (b:Mv):Bool:=let z2:=(Oi a (zT a (Ay a b (gZ a b)) b (gZ a b)) b (gZ a b)); let z3:=(bif a.aa==1 then (bif z2.variant==5 then (decide (0≤a.aa)&&decide (a.aa < Int.ofNat 2)&&(bif decide (z2.ag.getD (scale 1 a.aa).toNat 0 < 3) then (iK (Pos.mk z2.variant z2.ae z2.ab z2.af (wr .u8 (1 - a.aa)) z2.ai (eF a z2 b) z2.ag 0 (dQ a.full)) (wr .u8 (1 - a.aa))&&(bif mM (Pos.mk z2.variant z2.ae z2.ab z2.af (wr .u8 (1 - a.aa)) z2.ai (eF a z2 b) z2.ag 0 (dQ a.full)) (wr .u8 (1 - a.aa)) then (decide (0≤a.aa)&&decide (a.aa < Int.ofNat 2)&&(decide (0≤a.aa)&&decide (a.aa < Int.ofNat 2)&&true)) else true)) else true)) else true) else (bif z2.variant==5 then (decide (0≤a.aa)&&decide (a.aa < Int.ofNat 2)&&(bif decide (z2.ag.getD (scale 1 a.aa).toNat 0 < 3) then (iK (Pos.mk z2.variant z2.ae z2.ab z2.af (wr .u8 (1 - a.aa)) z2.ai (eF a z2 b) z2.ag 0 z2.full) (wr .u8 (1 - a.aa))&&(bif mM (Pos.mk z2.variant z2.ae z2.ab z2.af (wr .u8 (1 - a.aa)) z2.ai (eF a z2 b) z2.ag 0 z2.full) (wr .u8 (1 - a.aa)) then (decide (0≤a.aa)&&decide (a.aa < Int.ofNat 2)&&(decide (0≤a.aa)&&decide (a.aa < Int.ofNat 2)&&true)) else true)) else true)) else true)); let z4:=(bif decide (gZ a b ≥ 0) then z3 else (bif a.aa==1 then (bif z2.variant==5 then (decide (0≤a.aa)&&decide (a.aa < Int.ofNat 2)&&(bif decide (z2.ag.getD (scale 1 a.aa).toNat 0 < 3) then (iK (Pos.mk z2.variant z2.ae z2.ab z2.af (wr .u8 (1 - a.aa)) z2.ai (eF a z2 b) z2.ag (dQ a.half) (dQ a.full)) (wr .u8 (1 - a.aa))&&(bif mM (Pos.mk z2.variant z2.ae z2.ab z2.af (wr .u8 (1 - a.aa)) z2.ai (eF a z2 b) z2.ag (dQ a.half) (dQ a.full)) (wr .u8 (1 - a.aa)) then (decide (0≤a.aa)&&decide (a.aa < Int.ofNat 2)&&(decide (0≤a.aa)&&decide (a.aa < Int.ofNat 2)&&true)) else true)) else true)) else true) else (bif z2.variant==5 then (decide (0≤a.aa)&&decide (a.aa < Int.ofNat 2)&&(bif decide (z2.ag.getD (scale 1 a.aa).toNat 0 < 3) then (iK (Pos.mk z2.variant z2.ae z2.ab z2.af (wr .u8 (1 - a.aa)) z2.ai (eF a z2 b) z2.ag (dQ a.half) z2.full) (wr .u8 (1 - a.aa))&&(bif mM (Pos.mk z2.variant z2.ae z2.ab z2.af (wr .u8 (1 - a.aa)) z2.ai (eF a z2 b) z2.ag (dQ a.half) z2.full) (wr .u8 (1 - a.aa)) then (decide (0≤a.aa)&&decide (a.aa < Int.ofNat 2)&&(decide (0≤a.aa)&&decide (a.aa < Int.ofNat 2)&&true)) else true)) else true)) else true))); let z7:=(EW (a) (zT a (Ay a b (gZ a b)) b (gZ a b)) (b) (gZ a b)&&(FQ (a) z2 (b)&&(bif b.aD==1 then z3 else (bif b.aD==0 then (decide (0≤b.aw)&&decide (b.aw < Int.ofNat 64)&&(bif bA (a.ae.getD (scale 1 b.aw).toNat 0)==1 then z3 else z4)) else z4)))); let z8:=(lX (gZ a b) (LZ (zT a (Ay a b (gZ a b)) b (gZ a b)) (wr .i64 b.to)) a b (0,zT a (Ay a b (gZ a b)) b (gZ a b))); let z1:=(Oi a (z8.getD default).2.2 b (gZ a b)); let z5:=(bif a.aa==1 then (bif z1.variant==5 then (decide (0≤a.aa)&&decide (a.aa < Int.ofNat 2)&&(bif decide (z1.ag.getD (scale 1 a.aa).toNat 0 < 3) then (iK (Pos.mk z1.variant z1.ae z1.ab z1.af (wr .u8 (1 - a.aa)) z1.ai (eF a z1 b) z1.ag 0 (dQ a.full)) (wr .u8 (1 - a.aa))&&(bif mM (Pos.mk z1.variant z1.ae z1.ab z1.af (wr .u8 (1 - a.aa)) z1.ai (eF a z1 b) z1.ag 0 (dQ a.full)) (wr .u8 (1 - a.aa)) then (decide (0≤a.aa)&&decide (a.aa < Int.ofNat 2)&&(decide (0≤a.aa)&&decide (a.aa < Int.ofNat 2)&&true)) else true)) else true)) else true) else (bif z1.variant==5 then (decide (0≤a.aa)&&decide (a.aa < Int.ofNat 2)&&(bif decide (z1.ag.getD (scale 1 a.aa).toNat 0 < 3) then (iK (Pos.mk z1.variant z1.ae z1.ab z1.af (wr .u8 (1 - a.aa)) z1.ai (eF a z1 b) z1.ag 0 z1.full) (wr .u8 (1 - a.aa))&&(bif mM (Pos.mk z1.variant z1.ae z1.ab z1.af (wr .u8 (1 - a.aa)) z1.ai (eF a z1 b) z1.ag 0 z1.full) (wr .u8 (1 - a.aa)) then (decide (0≤a.aa)&&decide (a.aa < Int.ofNat 2)&&(decide (0≤a.aa)&&decide (a.aa < Int.ofNat 2)&&true)) else true)) else true)) else true)); let z6:=(bif decide (gZ a b ≥ 0) then z5 else (bif a.aa==1 then (bif z1.variant==5 then (decide (0≤a.aa)&&decide (a.aa < Int.ofNat 2)&&(bif decide (z1.ag.getD (scale 1 a.aa).toNat 0 < 3) then (iK (Pos.mk z1.variant z1.ae z1.ab z1.af (wr .u8 (1 - a.aa)) z1.ai (eF a z1 b) z1.ag (dQ a.half) (dQ a.full)) (wr .u8 (1 - a.aa))&&(bif mM (Pos.mk z1.variant z1.ae z1.ab z1.af (wr .u8 (1 - a.aa)) z1.ai (eF a z1 b) z1.ag (dQ a.half) (dQ a.full)) (wr .u8 (1 - a.aa)) then (decide (0≤a.aa)&&decide (a.aa < Int.ofNat 2)&&(decide (0≤a.aa)&&decide (a.aa < Int.ofNat 2)&&true)) else true)) else true)) else true) else (bif z1.variant==5 then (decide (0≤a.aa)&&decide (a.aa < Int.ofNat 2)&&(bif decide (z1.ag.getD (scale 1 a.aa).toNat 0 < 3) then (iK (Pos.mk z1.variant z1.ae z1.ab z1.af (wr .u8 (1 - a.aa)) z1.ai (eF a z1 b) z1.ag (dQ a.half) z1.full) (wr .u8 (1 - a.aa))&&(bif mM (Pos.mk z1.variant z1.ae z1.ab z1.af (wr .u8 (1 - a.aa)) z1.ai (eF a z1 b) z1.ag (dQ a.half) z1.full) (wr .u8 (1 - a.aa)) then (decide (0≤a.aa)&&decide (a.aa < Int.ofNat 2)&&(decide (0≤a.aa)&&decide (a.aa < Int.ofNat 2)&&true)) else true)) else true)) else true))); (wR (a) (b)&&(yq (a) (b) (gZ a b)&&(wJ (a) (Ay a b (gZ a b)) (b) (gZ a b)&&(bif a.variant==3 then (bif decide (gZ a b ≥ 0) then (LB (zT a (Ay a b (gZ a b)) b (gZ a b)) (wr .i64 b.to)&&(z8.isSome&&(EW (a) ((z8.getD default).2.2) (b) (gZ a b)&&(FQ (a) z1 (b)&&(bif b.aD==1 then z5 else (bif b.aD==0 then (decide (0≤b.aw)&&decide (b.aw < Int.ofNat 64)&&(bif bA (a.ae.getD (scale 1 b.aw).toNat 0)==1 then z5 else z6)) else z6)))))) else z7) else z7))))
theorem P47 (a:Pos) (b:Mv) (h:Ex a b=true):PS Pz 47 [Pos.av a,Mv.av b] (aZ.res (Af a b)):=pq14 ags h
def G47:GT:=g2 aZ jl (fun a b=>bV (Ex a b) (aZ.res (Af a b)))
theorem s47:Sound Pz 47 G47:=aW fun a b=>az (P47 a b)
def K23:KT:=[(23,77,[(0,(1::(rn 11 12 (rn 52 7 [71,72,73])))),(1,(1::3::4::(rn 11 12 (rn 52 7 [71,72,73])))),(2,(1::3::4::23::(rn 52 7 [71,72,73]))),(3,[2]),(4,(1::3::4::5::(rn 52 7 [71,72,73]))),(5,(1::(rn 3 4 (rn 52 7 [71,72,73])))),(6,(1::(rn 3 4 (29::(rn 52 7 [71,72,73]))))),(7,(1::(rn 3 4 (rn 52 7 [71,72,73])))),(8,(1::(rn 3 4 (40::(rn 52 7 [71,72,73]))))),(9,(1::(rn 3 4 (rn 52 7 [71,72,73])))),(10,(1::(rn 3 4 (rn 52 8 [71,72,73])))),(11,(1::(rn 3 4 (rn 52 7 [71,72,73])))),(12,[3,4,74]),(13,[2]),(14,[2])])]
def X6:ax:=bO Pz K23 [(38,LS),(45,G45),(47,G47),(39,S3),(44,VH),(46,G46),(48,VF)] [] []
theorem Th:aV X6:=ak aj ⟨C6,s45,s47,Vu,Zs,s46,ZP,trivial⟩ trivial trivial
def Qm (p1:(List Mv)) (p2:Pos) (p3:Nat) (x:((List Mv)×(List Mv)×Int×Nat)):St:=St.mk (.any::.ptr 0 0::.any::.list .mv x.1 (.own 1)::.list .mv x.2.1 (.own 2)::.list .mv p1 .fresh::.int .i64 x.2.2.1::(an 64 (.undef::.undef::.undef::(an 3 [])))) (Hp.mk [(pc p2 [])] [p3,x.1.length,x.2.2.2] [] 0 0 0)
def QU (p1:(List Mv)) (p2:Pos) (p3:Nat):((List Mv)×(List Mv)×Int×Bool×Nat)→Out:=fun y=>.exit 0 (St.mk (.any::.ptr 0 0::.any::.list .mv y.1 (.own 1)::.list .mv y.2.1 (.own 2)::.list .mv p1 .fresh::.int .i64 y.2.2.1::(an 22 (.bool y.2.2.2.1::(an 41 (.undef::.undef::.undef::(an 3 [])))))) (Hp.mk [(pc p2 [])] [p3,y.1.length,y.2.2.2.2] [] 0 0 0))
def Gl (p1:(List Mv)) (p2:Pos) (p3:Nat) (x:((List Mv)×(List Mv)×Int×Nat)):aF ((List Mv)×(List Mv)×Int×Nat) (((List Mv)×(List Mv)×Int×Bool×Nat)):=(bif decide (x.2.2.1 < Int.ofNat p1.length) then (bif !VB p2 (Af p2 (p1.getD x.2.2.1.toNat default)) then (aF.go (x.1,x.2.1,wr .i64 (x.2.2.1+1),x.2.2.2)) else (bif p2.variant==4 then (bif decide (gZ p2 (p1.getD x.2.2.1.toNat default) ≥ 0) then (aF.go (x.1++[p1.getD x.2.2.1.toNat default],x.2.1++[p1.getD x.2.2.1.toNat default],wr .i64 (x.2.2.1+1),(x.2.1++[p1.getD x.2.2.1.toNat default]).length)) else (aF.go (x.1++[p1.getD x.2.2.1.toNat default],x.2.1,wr .i64 (x.2.2.1+1),x.2.2.2))) else (aF.go (x.1++[p1.getD x.2.2.1.toNat default],x.2.1,wr .i64 (x.2.2.1+1),x.2.2.2)))) else (aF.out ((x.1,x.2.1,x.2.2.1,decide (x.2.2.1 < Int.ofNat p1.length),x.2.2.2))))
def CQ (p1:(List Mv)) (p2:Pos) (p3:Nat) (x:((List Mv)×(List Mv)×Int×Nat)):Bool:=(bif decide (x.2.2.1 < Int.ofNat p1.length) then (decide (0≤x.2.2.1)&&decide (x.2.2.1 < Int.ofNat p1.length)&&(Ex (p2) (p1.getD x.2.2.1.toNat default)&&(I9 (p2) (Af p2 (p1.getD x.2.2.1.toNat default))&&(bif !VB p2 (Af p2 (p1.getD x.2.2.1.toNat default)) then true else (decide (0≤x.2.2.1)&&decide (x.2.2.1 < Int.ofNat p1.length)&&(x.1.length==x.1.length&&decide (x.1.length+1≤1073741824)&&(bif p2.variant==4 then (decide (0≤x.2.2.1)&&decide (x.2.2.1 < Int.ofNat p1.length)&&(wR (p2) (p1.getD x.2.2.1.toNat default)&&(bif decide (gZ p2 (p1.getD x.2.2.1.toNat default) ≥ 0) then (decide (0≤x.2.2.1)&&decide (x.2.2.1 < Int.ofNat p1.length)&&(x.2.2.2==x.2.1.length&&decide (x.2.1.length+1≤1073741824)&&true)) else true))) else true))))))) else true)
def fR (p1:(List Mv)) (p2:Pos) (p3:Nat) (x:((List Mv)×(List Mv)×Int×Nat)):Option (((List Mv)×(List Mv)×Int×Bool×Nat)):=cP (fun x=>bif CQ p1 p2 p3 x then Gl p1 p2 p3 x else .bad) many x
abbrev Qi {α:Type} (k:(List Mv)→Pos→Nat→((List Mv)×(List Mv)×Int×Nat)→α) (s:St):α:=wP s 0 fun q0=>k (tL (ET.mv) (tT s 5)) q0 (tK s 0) ((tL (ET.mv) (tT s 3)),(tL (ET.mv) (tT s 4)),(tI (tT s 6)),(tK s 2))
theorem YV (p1:(List Mv)) (p2:Pos) (p3:Nat) (x:((List Mv)×(List Mv)×Int×Nat)) (r:((List Mv)×(List Mv)×Int×Bool×Nat)) (h:fR p1 p2 p3 x=some r):aB Pz (bj Pz 23 6) (Qm p1 p2 p3 x) (QU p1 p2 p3 r):=smq (m:=12) (fn:=23) Th (Qi fun _ _ _ x=>some x) (fun o=>match o with | .exit 0 s=>some ((tL ET.mv (tT s 3)),(tL ET.mv (tT s 4)),(tI (tT s 6)),(tB (tT s 29)),(tK s 2)) | _=>none) many x r h
def QA (b:Code) (s:St):Tr Out:=Qi (fun p1 p2 p3 x=>lO b (bj Pz 23 6) s (Qm p1 p2 p3 x) (fR p1 p2 p3 x) (QU p1 p2 p3)) s
theorem S1:∀ b,aY Pz b (QA b):=fun _ _ _ h=>bS (YV _ _ _ _) h
def B23:ax:=bO Pz K23 [(38,LS),(45,G45),(47,G47),(39,S3),(44,VH),(46,G46),(48,VF)] [(23,6,QA)] []
theorem aey:aV B23:=ak aj ⟨C6,s45,s47,Vu,Zs,s46,ZP,trivial⟩ ⟨S1,trivial⟩ trivial
def FF (a:Pos):List Mv:=(bif !yd a then ([]) else (bif Gn a.variant a.aa then (bif decide (oQ a a.aa < 0) then ([]) else (bif a.variant==4 then (bif decide (Int.ofNat ((fR (D4 a) a 0 ([],[],0,0)).getD default).2.1.length > 0) then (((fR (D4 a) a 0 ([],[],0,0)).getD default).2.1) else (((fR (D4 a) a 0 ([],[],0,0)).getD default).1)) else (((fR (D4 a) a 0 ([],[],0,0)).getD default).1))) else (bif a.variant==4 then (bif decide (Int.ofNat ((fR (D4 a) a 0 ([],[],0,0)).getD default).2.1.length > 0) then (((fR (D4 a) a 0 ([],[],0,0)).getD default).2.1) else (((fR (D4 a) a 0 ([],[],0,0)).getD default).1)) else (((fR (D4 a) a 0 ([],[],0,0)).getD default).1))))
def xb (a:Pos):Bool:=(bif !yd a then true else (bif Gn a.variant a.aa then (pq (a) (a.aa)&&(bif decide (oQ a a.aa < 0) then true else (Fa (a)&&((fR (D4 a) a 0 ([],[],0,0)).isSome&&true)))) else (Fa (a)&&((fR (D4 a) a 0 ([],[],0,0)).isSome&&true))))
theorem P23 (a:Pos) (h:xb a=true):PS Pz 23 [Pos.av a] ((dL .mv).res (FF a)):=pq14 aey h
def G23:GT:=g1 aZ (fun a=>bV (xb a) ((dL .mv).res (FF a)))
theorem s23:Sound Pz 23 G23:=aH fun a=>az (P23 a)
def K43:KT:=[(43,55,[(0,(1::2::15::30::31::32::(rn 46 6 []))),(1,(rn 1 4 (15::30::31::32::(rn 46 6 [])))),(2,(rn 1 4 (16::30::31::32::(rn 46 6 [])))),(3,[2]),(4,(1::2::3::18::30::31::32::(rn 46 6 []))),(5,[2]),(6,(1::2::21::30::31::32::(rn 46 6 []))),(7,[2]),(8,(1::2::5::30::31::32::(rn 46 6 []))),(9,(1::2::5::6::30::31::32::(rn 46 6 []))),(10,(1::2::5::6::(rn 30 4 (rn 46 6 [])))),(11,(1::2::5::6::30::31::32::(rn 46 6 []))),(12,(1::2::5::6::30::31::32::(rn 46 7 []))),(13,[2]),(14,[2])])]
def aa2:ax:=bO Pz K43 [(23,G23),(39,S3),(40,G40)] [] []
theorem R6:aV aa2:=ak aj ⟨s23,Vu,s40,trivial⟩ trivial trivial
def PZ (p1:(List Mv)) (p2:Pos) (x:(Int)):St:=St.mk (.any::.ptr 0 0::.ptr 1 0::.any::.any::.list .mv p1 .fresh::.int .i64 x::(an 48 [])) (Hp.mk [(pc p2 []),[.int .u8 0,.int .u8 0]] [] [] 0 0 0)
def PD (p1:(List Mv)) (p2:Pos):Unit ⊕ (Int×Bool)→Out
 | (.inl (y))=>.ret (St.mk (AV.any::AV.any::AV.ptr 1 0::(an 52 [])) (Hp.mk [(pc p2 []),[AV.bH .u8 0,AV.bH .u8 0]] [] [] 0 0 0))
 | (.inr (y))=>.exit 0 (St.mk (AV.any::AV.ptr 0 0::AV.ptr 1 0::AV.any::AV.any::AV.list ET.mv p1 Tk.fresh::AV.int .i64 y.1::(an 26 (AV.bool y.2::(an 21 [])))) (Hp.mk [(pc p2 []),[AV.int .u8 0,AV.int .u8 0]] [] [] 0 0 0))
def AW (p1:(List Mv)) (p2:Pos) (x:(Int)):aF (Int) (Unit ⊕ (Int×Bool)):=(bif decide (x < Int.ofNat p1.length) then (bif p2.aa==1 then (bif wr .i64 (p1.getD x.toNat default).aw==oQ p2 1 then (bif decide ((p1.getD x.toNat default).to > 55) then (aF.out (.inl (()))) else (aF.go (wr .i64 (x+1)))) else (aF.go (wr .i64 (x+1)))) else (aF.out (.inr ((x,p2.aa==1))))) else (aF.out (.inr ((x,false)))))
def xk (p1:(List Mv)) (p2:Pos) (x:(Int)):Bool:=(bif decide (x < Int.ofNat p1.length) then (bif p2.aa==1 then (decide (0≤x)&&decide (x < Int.ofNat p1.length)&&(pq (p2) (1)&&(bif wr .i64 (p1.getD x.toNat default).aw==oQ p2 1 then (decide (0≤x)&&decide (x < Int.ofNat p1.length)&&true) else true))) else true) else true)
def je (p1:(List Mv)) (p2:Pos) (x:(Int)):Option (Unit ⊕ (Int×Bool)):=cP (fun x=>bif xk p1 p2 x then AW p1 p2 x else .bad) many x
abbrev Q7 {α:Type} (k:(List Mv)→Pos→(Int)→α) (s:St):α:=wP s 0 fun q0=>k (tL (ET.mv) (tT s 5)) q0 ((tI (tT s 6)))
theorem ZE (p1:(List Mv)) (p2:Pos) (x:(Int)) (r:Unit ⊕ (Int×Bool)) (h:je p1 p2 x=some r):aB Pz (bj Pz 43 10) (PZ p1 p2 x) (PD p1 p2 r):=aB.vF (m:=12) (fn:=43) R6 (Q7 fun _ _ x=>some x) (fun o=>match o with | .ret s=>some (.inl ()) | .exit 0 s=>some (.inr ((tI (tT s 6)),(tB (tT s 33)))) | _=>none) (fun r=>by cases r <;> rfl) (fun _=>by kernel_rfl) (fun _=>by kernel_rfl) (fun _=>by kernel_rfl) (fun _=>by kernel_rfl) many x r h
def Pf (b:Code) (s:St):Tr Out:=Q7 (fun p1 p2 x=>vM b (bj Pz 43 10) s (PZ p1 p2 x) (je p1 p2 x) (PD p1 p2)) s
theorem Uc:∀ b,aY Pz b (Pf b):=fun _ _ _ h=>dq (ZE _ _ _) h
def B43:ax:=bO Pz K43 [(23,G23),(39,S3),(40,G40)] [(43,10,Pf)] []
theorem aiK:aV B43:=ak aj ⟨s23,Vu,s40,trivial⟩ ⟨Uc,trivial⟩ trivial
def VC (a:Pos):(Int×Int):=(bif decide (oQ a 0 > 55) then (bif decide (oQ a 1 > 55) then ⟨(3),(6)⟩ else (bif decide (oQ a 1 > 55) then ⟨((mW 1 6).1),((mW 1 6).2)⟩ else (bif !decide (oQ a 0 > 55) then ⟨(0),(0)⟩ else (bif cq ((je (FF a) a 0).getD default) then ⟨(0),(0)⟩ else ⟨((mW 0 6).1),((mW 0 6).2)⟩)))) else (bif decide (oQ a 1 > 55) then ⟨((mW 1 6).1),((mW 1 6).2)⟩ else (bif !decide (oQ a 0 > 55) then ⟨(0),(0)⟩ else (bif cq ((je (FF a) a 0).getD default) then ⟨(0),(0)⟩ else ⟨((mW 0 6).1),((mW 0 6).2)⟩))))
def GV (a:Pos):Bool:=(pq (a) (0)&&(pq (a) (1)&&(bif decide (oQ a 0 > 55) then (bif decide (oQ a 1 > 55) then true else (bif decide (oQ a 1 > 55) then true else (bif !decide (oQ a 0 > 55) then true else (xb (a)&&((je (FF a) a 0).isSome&&bif cq ((je (FF a) a 0).getD default) then true else true))))) else (bif decide (oQ a 1 > 55) then true else (bif !decide (oQ a 0 > 55) then true else (xb (a)&&((je (FF a) a 0).isSome&&bif cq ((je (FF a) a 0).getD default) then true else true)))))))
theorem P43 (a:Pos) (h:GV a=true):PS Pz 43 [Pos.av a] ((dR .u8 .u8).res (VC a)):=pq14 aiK h
def G43:GT:=g1 aZ (fun a=>bV (GV a) ((dR .u8 .u8).res (VC a)))
theorem s43:Sound Pz 43 G43:=aH fun a=>az (P43 a)
def K22:KT:=[(22,79,[(0,[1,2]),(1,[1,2,7]),(2,[2]),(3,[1,2,3,4]),(4,[1,2,3,4,15]),(5,(rn 1 4 [15,16])),(6,[2,4,21]),(7,[2]),(8,(rn 1 4 [15,24])),(9,[1,2,3,4,30]),(10,[2]),(11,[2,3,37]),(12,[2]),(13,(rn 1 4 [15,40])),(14,[1,2,3,4,45]),(15,[2]),(16,[2,3,51]),(17,[2]),(18,(rn 1 4 [15,54])),(19,[2,58]),(20,[2]),(21,(rn 1 4 [15,60])),(22,[1,2,3,4,65]),(23,[2]),(24,[2,4,71]),(25,[2]),(26,[1,2,74]),(27,[2]),(28,[2])])]
def B22:ax:=bO Pz K22 [(38,LS),(39,S3),(40,G40),(41,G41),(42,G42),(43,G43)] [] []
theorem adN:aV B22:=ak aj ⟨C6,Vu,s40,s41,s42,s43,trivial⟩ trivial trivial
def KN (a:Pos):(Int×Int):=(bif !yd a then ⟨(0),(0)⟩ else (bif a.variant==3 then (bif decide (oQ a a.aa < 0) then ⟨((mW (wr .u8 (1 - a.aa)) 6).1),((mW (wr .u8 (1 - a.aa)) 6).2)⟩ else ⟨(0),(0)⟩) else (bif a.variant==5 then (bif decide (a.ag.getD (scale 1 (wr .u8 (1 - a.aa))).toNat 0 ≥ 3) then ⟨((mW (wr .u8 (1 - a.aa)) 7).1),((mW (wr .u8 (1 - a.aa)) 7).2)⟩ else (bif decide (a.ag.getD (scale 1 a.aa).toNat 0 ≥ 3) then ⟨((mW a.aa 7).1),((mW a.aa 7).2)⟩ else ⟨(0),(0)⟩)) else (bif a.variant==6 then (bif RO (oQ a (wr .u8 (1 - a.aa))) then ⟨((mW (wr .u8 (1 - a.aa)) 6).1),((mW (wr .u8 (1 - a.aa)) 6).2)⟩ else (bif RO (oQ a a.aa) then ⟨((mW a.aa 6).1),((mW a.aa 6).2)⟩ else ⟨(0),(0)⟩)) else (bif a.variant==7 then (bif !Qw a 0 then ⟨((mW 1 8).1),((mW 1 8).2)⟩ else ⟨(0),(0)⟩) else (bif a.variant==4 then (bif !Qw a a.aa then ⟨((mW a.aa 8).1),((mW a.aa 8).2)⟩ else (bif !Qw a (wr .u8 (1 - a.aa)) then ⟨((mW (wr .u8 (1 - a.aa)) 8).1),((mW (wr .u8 (1 - a.aa)) 8).2)⟩ else ⟨(0),(0)⟩)) else (bif a.variant==8 then ⟨((VC a).1),((VC a).2)⟩ else ⟨(0),(0)⟩)))))))
def Bl (a:Pos):Bool:=(bif !yd a then true else (bif a.variant==3 then (pq (a) (a.aa)&&true) else (bif a.variant==5 then (decide (0≤wr .u8 (1 - a.aa))&&decide (wr .u8 (1 - a.aa) < Int.ofNat 2)&&(bif decide (a.ag.getD (scale 1 (wr .u8 (1 - a.aa))).toNat 0 ≥ 3) then true else (decide (0≤a.aa)&&decide (a.aa < Int.ofNat 2)&&true))) else (bif a.variant==6 then (pq (a) (wr .u8 (1 - a.aa))&&(bif RO (oQ a (wr .u8 (1 - a.aa))) then true else (pq (a) (a.aa)&&true))) else (bif a.variant==7 then (AU (a) (0)&&true) else (bif a.variant==4 then (AU (a) (a.aa)&&(bif !Qw a a.aa then true else (AU (a) (wr .u8 (1 - a.aa))&&true))) else (bif a.variant==8 then (GV (a)&&true) else true)))))))
theorem P22 (a:Pos) (h:Bl a=true):PS Pz 22 [Pos.av a] ((dR .u8 .u8).res (KN a)):=pq14 adN h
def G22:GT:=g1 aZ (fun a=>bV (Bl a) ((dR .u8 .u8).res (KN a)))
theorem s22:Sound Pz 22 G22:=aH fun a=>az (P22 a)
def K10:KT:=[(10,11,[(0,[1]),(1,[1,3]),(2,[1,8]),(3,[2]),(4,[2])])]
def B10:ax:=bO Pz K10 [(22,G22),(23,G23)] [] []
theorem air:aV B10:=ak aj ⟨s22,s23,trivial⟩ trivial trivial
def eG (a:Pos):List Mv:=(bif (KN a).1 != 0 then ([]) else (FF a))
def uE (a:Pos):Bool:=(Bl (a)&&(bif (KN a).1 != 0 then true else (xb (a)&&true)))
theorem P10 (a:Pos) (h:uE a=true):PS Pz 10 [Pos.av a] ((dL .mv).res (eG a)):=pq14 air h
def Tl:GT:=g1 aZ (fun a=>bV (uE a) ((dL .mv).res (eG a)))
theorem Vy:Sound Pz 10 Tl:=aH fun a=>az (P10 a)
def K25:KT:=[(25,18,[(0,[0,3]),(1,[0,3,5]),(2,[0,3,5,9]),(3,[0,3,5]),(4,[0,3,5,17]),(5,[4]),(6,[4])])]
def YF:ax:=bO Pz K25 [] [] []
theorem Ul:aV YF:=ak aj trivial trivial trivial
def Rg (p1:(List Mv)) (p2:Mv) (x:(Int)):St:=St.mk (.list .mv p1 .arg::.any::.any::.ptr 0 0::.any::.int .i64 x::(an 12 [])) (Hp.mk [[.int .i8 p2.aw,.int .i8 p2.to,.int .u8 p2.aM,.int .u8 p2.aD,.bool p2.bq]] [] [] 0 0 0)
def Rk (p1:(List Mv)) (p2:Mv):Unit ⊕ (Int×Bool)→Out
 | (.inl (y))=>.ret (St.mk (an 4 (AV.aP true::(an 13 []))) (Hp.mk [[AV.int .i8 p2.aw,AV.int .i8 p2.to,AV.int .u8 p2.aM,AV.int .u8 p2.aD,AV.bool p2.bq]] [] [] 0 0 0))
 | (.inr (y))=>.exit 0 (St.mk (AV.list ET.mv p1 Tk.arg::AV.any::AV.any::AV.ptr 0 0::AV.any::AV.int .i64 y.1::(an 3 (AV.bool y.2::(an 8 [])))) (Hp.mk [[AV.int .i8 p2.aw,AV.int .i8 p2.to,AV.int .u8 p2.aM,AV.int .u8 p2.aD,AV.bool p2.bq]] [] [] 0 0 0))
def Jy (p1:(List Mv)) (p2:Mv) (x:(Int)):aF (Int) (Unit ⊕ (Int×Bool)):=(bif decide (x < Int.ofNat p1.length) then (bif bI BinOp.eql ((p1.getD x.toNat default).aw==p2.aw&&((p1.getD x.toNat default).to==p2.to&&((p1.getD x.toNat default).aM==p2.aM&&((p1.getD x.toNat default).aD==p2.aD&&((p1.getD x.toNat default).bq==p2.bq&&true))))) then (aF.out (.inl (()))) else (aF.go (wr .i64 (x+1)))) else (aF.out (.inr ((x,decide (x < Int.ofNat p1.length))))))
def CR (p1:(List Mv)) (p2:Mv) (x:(Int)):Bool:=(bif decide (x < Int.ofNat p1.length) then (decide (0≤x)&&decide (x < Int.ofNat p1.length)&&true) else true)
def qd (p1:(List Mv)) (p2:Mv) (x:(Int)):Option (Unit ⊕ (Int×Bool)):=cP (fun x=>bif CR p1 p2 x then Jy p1 p2 x else .bad) many x
abbrev PM {α:Type} (k:(List Mv)→Mv→(Int)→α) (s:St):α:=wM s 0 fun q0=>k (tL (ET.mv) (tT s 0)) q0 ((tI (tT s 5)))
theorem Zg (p1:(List Mv)) (p2:Mv) (x:(Int)) (r:Unit ⊕ (Int×Bool)) (h:qd p1 p2 x=some r):aB Pz (bj Pz 25 2) (Rg p1 p2 x) (Rk p1 p2 r):=aB.vF (m:=12) (fn:=25) Ul (PM fun _ _ x=>some x) (fun o=>match o with | .ret s=>some (.inl ()) | .exit 0 s=>some (.inr ((tI (tT s 5)),(tB (tT s 9)))) | _=>none) (fun r=>by cases r <;> rfl) (fun _=>by kernel_rfl) (fun _=>by kernel_rfl) (fun _=>by kernel_rfl) (fun _=>by kernel_rfl) many x r h
def Qn (b:Code) (s:St):Tr Out:=PM (fun p1 p2 x=>vM b (bj Pz 25 2) s (Rg p1 p2 x) (qd p1 p2 x) (Rk p1 p2)) s
theorem Vm:∀ b,aY Pz b (Qn b):=fun _ _ _ h=>dq (Zg _ _ _) h
def B25:ax:=bO Pz K25 [] [(25,2,Qn)] []
theorem aeR:aV B25:=ak aj trivial ⟨Vm,trivial⟩ trivial
def P7 (a:List Mv) (b:Mv):Bool:=(bif cq ((qd a b 0).getD default) then (true) else (false))
def EC (a:List Mv) (b:Mv):Bool:=((qd a b 0).isSome&&bif cq ((qd a b 0).getD default) then true else true)
theorem P25 (a:List Mv) (b:Mv) (h:EC a b=true):PS Pz 25 [.list .mv a .arg,Mv.av b] (dB.res (P7 a b)):=pq14 aeR h
def G25:GT:=g2 (dL .mv) jl (fun a b=>bV (EC a b) (dB.res (P7 a b)))
theorem s25:Sound Pz 25 G25:=aW fun a b=>az (P25 a b)
def aa5:KT:=[(103,14,[(0,[0]),(1,[0,8]),(2,[2]),(3,[0,10]),(4,[0]),(5,[2])])]
def Rz:ax:=bO Pz aa5 [] [] []
theorem NV:aV Rz:=ak aj trivial trivial trivial
def LP  (x:(Int)):St:=St.mk (.int .i64 x::(an 13 [])) (Hp.mk [] [] [] 0 0 0)
def LI  : (Int×Bool)→Out:=fun y=>.exit 0 (St.mk (.int .i64 y.1::(an 9 (.bool y.2::(an 3 [])))) (Hp.mk [] [] [] 0 0 0))
def ON  (x:(Int)):aF (Int) ((Int×Bool)):=(bif decide (x ≥ 8) then (aF.go (wr .i64 (x - 8))) else (aF.out ((x,decide (x ≥ 8)))))
def Ky  (x:(Int)):Bool:=true
def rb  (x:(Int)):Option ((Int×Bool)):=cP (fun x=>bif Ky  x then ON  x else .bad) many x
abbrev G9 {α:Type} (k:(Int)→α) (s:St):α:=k ((tI (tT s 0)))
theorem TU  (x:(Int)) (r:(Int×Bool)) (h:rb  x=some r):aB Pz (bj Pz 103 3) (LP  x) (LI  r):=smq (m:=12) (fn:=103) NV (G9 fun x=>some x) (fun o=>match o with | .exit 0 s=>some ((tI (tT s 0)),(tB (tT s 10))) | _=>none) many x r h
def Lp (b:Code) (s:St):Tr Out:=G9 (fun x=>lO b (bj Pz 103 3) s (LP x) (rb x) (LI )) s
theorem NX:∀ b,aY Pz b (Lp b):=fun _ _ _ h=>bS (TU _) h
def afE:ax:=bO Pz aa5 [] [(103,3,Lp)] []
theorem WD:aV afE:=ak aj trivial ⟨NX,trivial⟩ trivial
def uy (a:Int):Int:=(bif decide (a < 0) then (-1) else (bif decide (a > 63) then (-1) else (((rb a).getD default).1)))
def CN (a:Int):Bool:=(bif decide (a < 0) then true else (bif decide (a > 63) then true else ((rb a).isSome&&true)))
theorem ab9 (a:Int) (h:CN a=true):PS Pz 103 [.int .i64 a] ((dI .i64).res (uy a)):=pq14 WD h
def ZS:GT:=g1 (dI .i64) (fun a=>bV (CN a) ((dI .i64).res (uy a)))
theorem acP:Sound Pz 103 ZS:=aH fun a=>az (ab9 a)
def ZC:KT:=[(104,17,[(0,[0]),(1,[0,9]),(2,[2]),(3,[0,3]),(4,[0,3,11]),(5,[0,3]),(6,[0,3]),(7,[2])])]
def Uo:ax:=bO Pz ZC [] [] []
theorem L8:aV Uo:=ak aj trivial trivial trivial
def Jk  (x:(Int×Int)):St:=St.mk (.int .i64 x.1::.any::.any::.int .i64 x.2::(an 13 [])) (Hp.mk [] [] [] 0 0 0)
def JJ  : (Int×Int×Bool)→Out:=fun y=>.exit 0 (St.mk (.int .i64 y.1::.any::.any::.int .i64 y.2.1::(an 7 (.bool y.2.2::(an 5 [])))) (Hp.mk [] [] [] 0 0 0))
def Nl  (x:(Int×Int)):aF (Int×Int) ((Int×Int×Bool)):=(bif decide (x.1 ≥ 8) then (aF.go (wr .i64 (x.1 - 8),wr .i64 (x.2+1))) else (aF.out ((x.1,x.2,decide (x.1 ≥ 8)))))
def Kx  (x:(Int×Int)):Bool:=true
def rh  (x:(Int×Int)):Option ((Int×Int×Bool)):=cP (fun x=>bif Kx  x then Nl  x else .bad) many x
abbrev Ii {α:Type} (k:(Int×Int)→α) (s:St):α:=k ((tI (tT s 0)),(tI (tT s 3)))
theorem Uk  (x:(Int×Int)) (r:(Int×Int×Bool)) (h:rh  x=some r):aB Pz (bj Pz 104 4) (Jk  x) (JJ  r):=smq (m:=12) (fn:=104) L8 (Ii fun x=>some x) (fun o=>match o with | .exit 0 s=>some ((tI (tT s 0)),(tI (tT s 3)),(tB (tT s 11))) | _=>none) many x r h
def Hz (b:Code) (s:St):Tr Out:=Ii (fun x=>lO b (bj Pz 104 4) s (Jk x) (rh x) (JJ )) s
theorem Ng:∀ b,aY Pz b (Hz b):=fun _ _ _ h=>bS (Uk _) h
def ae4:ax:=bO Pz ZC [] [(104,4,Hz)] []
theorem XB:aV ae4:=ak aj trivial ⟨Ng,trivial⟩ trivial
def uV (a:Int):Int:=(bif decide (a < 0) then (-1) else (bif decide (a > 63) then (-1) else (((rh (a,0)).getD default).2.1)))
def D2 (a:Int):Bool:=(bif decide (a < 0) then true else (bif decide (a > 63) then true else ((rh (a,0)).isSome&&true)))
theorem afL (a:Int) (h:D2 a=true):PS Pz 104 [.int .i64 a] ((dI .i64).res (uV a)):=pq14 XB h
def Y9:GT:=g1 (dI .i64) (fun a=>bV (D2 a) ((dI .i64).res (uV a)))
theorem aft:Sound Pz 104 Y9:=aH fun a=>az (afL a)
def K51:KT:=[(51,22,[(0,[0]),(1,[0,8]),(2,[2]),(3,[2])])]
def B51:ax:=bO Pz K51 [(103,ZS),(104,Y9)] [] []
theorem ahu:aV B51:=ak aj ⟨acP,aft,trivial⟩ trivial trivial
def kL (a:Int):List UInt8:=(bif decide (a < 0) then ((ByteArray.mk #[]).data.toList) else (bif decide (a > 63) then ((ByteArray.mk #[]).data.toList) else (List.drop (uy a).toNat (List.take (wr .i64 (uy a+1)).toNat (ByteArray.mk #[97,98,99,100,101,102,103,104]).data.toList)++List.drop (uV a).toNat (List.take (wr .i64 (uV a+1)).toNat (ByteArray.mk #[49,50,51,52,53,54,55,56]).data.toList))))
def E2 (a:Int):Bool:=(bif decide (a < 0) then true else (bif decide (a > 63) then true else (CN a&&(CN a&&(decide (0≤uy a)&&decide (uy a≤wr .i64 (uy a+1))&&decide (wr .i64 (uy a+1)≤Int.ofNat 8)&&(D2 a&&(D2 a&&(decide (0≤uV a)&&decide (uV a≤wr .i64 (uV a+1))&&decide (wr .i64 (uV a+1)≤Int.ofNat 8)&&(decide ((List.drop (uy a).toNat (List.take (wr .i64 (uy a+1)).toNat (ByteArray.mk #[97,98,99,100,101,102,103,104]).data.toList)).length+(List.drop (uV a).toNat (List.take (wr .i64 (uV a+1)).toNat (ByteArray.mk #[49,50,51,52,53,54,55,56]).data.toList)).length≤1073741824)&&true)))))))))
theorem P51 (a:Int) (h:E2 a=true):PS Pz 51 [.int .i64 a] (dS.res (kL a)):=pq14 ahu h
def G51:GT:=g1 (dI .i64) (fun a=>bV (E2 a) (dS.res (kL a)))
theorem s51:Sound Pz 51 G51:=aH fun a=>az (P51 a)
def K52:KT:=[(52,12,[(0,[0]),(1,[3]),(2,[2])]),(105,25,[(0,[0,2]),(1,[0,2,4]),(2,[0,2,4,5]),(3,[0,2,4,5,10]),(4,[0,2,4,5]),(5,[0,2,4,5,19]),(6,[2,3]),(7,[2,3])]),(179,14,[(0,[]),(1,[0])])]
def B52:ax:=bO Pz K52 [] [] []
theorem ac7:aV B52:=ak aj trivial trivial trivial
def sH (a:Int):List UInt8:=(bif 1==a then ((ByteArray.mk #[80]).data.toList) else (bif 2==a then ((ByteArray.mk #[78]).data.toList) else (bif 3==a then ((ByteArray.mk #[66]).data.toList) else (bif 4==a then ((ByteArray.mk #[82]).data.toList) else (bif 5==a then ((ByteArray.mk #[81]).data.toList) else (bif 6==a then ((ByteArray.mk #[75]).data.toList) else (bif 9==a then ((ByteArray.mk #[112]).data.toList) else (bif 10==a then ((ByteArray.mk #[110]).data.toList) else (bif 11==a then ((ByteArray.mk #[98]).data.toList) else (bif 12==a then ((ByteArray.mk #[114]).data.toList) else (bif 13==a then ((ByteArray.mk #[113]).data.toList) else (bif 14==a then ((ByteArray.mk #[107]).data.toList) else ([])))))))))))))
def aiz (a:Int):Bool:=true
theorem P52 (a:Int) (h:aiz a=true):PS Pz 52 [.int .u8 a] (dS.res (sH a)):=pq14 ac7 h
def G52:GT:=g1 (dI .u8) (fun a=>.ret (dS.res (sH a)))
theorem s52:Sound Pz 52 G52:=aH fun a=>b7 (P52 a rfl)
def ahC:KT:=[(105,25,[(0,[0,2]),(1,[0,2,4]),(2,[0,2,4,5]),(3,[0,2,4,5,10]),(4,[0,2,4,5]),(5,[0,2,4,5,19]),(6,[2,3]),(7,[2,3])]),(179,14,[(0,[]),(1,[0])]),(106,12,[(0,[0]),(1,[3]),(2,[2])])]
def ahS:ax:=bO Pz ahC [] [] []
theorem Yg:aV ahS:=ak aj trivial trivial trivial
def Nk (a:Int):Int:=(bif 1==a then (1) else (bif 2==a then (2) else (bif 3==a then (3) else (bif 4==a then (4) else (bif 5==a then (5) else (bif 6==a then (6) else (bif 9==a then (1) else (bif 10==a then (2) else (bif 11==a then (3) else (bif 12==a then (4) else (bif 13==a then (5) else (bif 14==a then (6) else (0)))))))))))))
def WO (a:Int):Bool:=true
theorem ajh (a:Int) (h:WO a=true):PS Pz 106 [.int .u8 a] ((dI .u8).res (Nk a)):=pq14 Yg h
def aaN:GT:=g1 (dI .u8) (fun a=>.ret ((dI .u8).res (Nk a)))
theorem afk:Sound Pz 106 aaN:=aH fun a=>b7 (ajh a rfl)
def afa:KT:=[(180,11,[(0,[0]),(1,[4]),(2,[2])]),(105,25,[(0,[0,2]),(1,[0,2,4]),(2,[0,2,4,5]),(3,[0,2,4,5,10]),(4,[0,2,4,5]),(5,[0,2,4,5,19]),(6,[2,3]),(7,[2,3])]),(179,14,[(0,[]),(1,[0])])]
def agq:ax:=bO Pz afa [] [] []
theorem aaM:aV agq:=ak aj trivial trivial trivial
def Et (a:Int):Bool:=(bif 1==a then (true) else (bif 2==a then (true) else (bif 3==a then (true) else (bif 4==a then (true) else (bif 5==a then (true) else (bif 6==a then (true) else (bif 9==a then (true) else (bif 10==a then (true) else (bif 11==a then (true) else (bif 12==a then (true) else (bif 13==a then (true) else (bif 14==a then (true) else (false)))))))))))))
def Pc (a:Int):Bool:=true
theorem adm (a:Int) (h:Pc a=true):PS Pz 180 [.int .u8 a] (dB.res (Et a)):=pq14 aaM h
def aa1:GT:=g1 (dI .u8) (fun a=>.ret (dB.res (Et a)))
theorem af7:Sound Pz 180 aa1:=aH fun a=>b7 (adm a rfl)
def acC:KT:=[(107,23,[(0,[1,2]),(1,[1,2,18]),(2,[4]),(3,[4])])]
def agG:ax:=bO Pz acC [(180,aa1)] [] []
theorem Xk:aV agG:=ak aj ⟨af7,trivial⟩ trivial trivial
def M3 (a:Pos) (b:Int):Int:=(bif decide (b < 0) then (0) else (bif decide (b > 63) then (0) else (bif !Et (a.ae.getD (scale 1 b).toNat 0) then (0) else (a.ae.getD (scale 1 b).toNat 0))))
def Dl (a:Pos) (b:Int):Bool:=(bif decide (b < 0) then true else (bif decide (b > 63) then true else (decide (0≤b)&&decide (b < Int.ofNat 64)&&(Pc (a.ae.getD (scale 1 b).toNat 0)&&(bif !Et (a.ae.getD (scale 1 b).toNat 0) then true else (decide (0≤b)&&decide (b < Int.ofNat 64)&&true))))))
theorem abX (a:Pos) (b:Int) (h:Dl a b=true):PS Pz 107 [Pos.av a,.int .i64 b] ((dI .u8).res (M3 a b)):=pq14 Xk h
def XZ:GT:=g2 aZ (dI .i64) (fun a b=>bV (Dl a b) ((dI .u8).res (M3 a b)))
theorem af1:Sound Pz 107 XZ:=aW fun a b=>az (abX a b)
def K53:KT:=[(53,11,[(0,[2,3]),(1,[4])])]
def B53:ax:=bO Pz K53 [(106,aaN),(107,XZ)] [] []
theorem agp:aV B53:=ak aj ⟨afk,af1,trivial⟩ trivial trivial
def yh (a:Pos) (b:Mv):Int:=(Nk (M3 a (wr .i64 b.aw)))
def uR (a:Pos) (b:Mv):Bool:=(Dl a (wr .i64 b.aw)&&true)
theorem P53 (a:Pos) (b:Mv) (h:uR a b=true):PS Pz 53 [Pos.av a,Mv.av b] ((dI .u8).res (yh a b)):=pq14 agp h
def G53:GT:=g2 aZ jl (fun a b=>bV (uR a b) ((dI .u8).res (yh a b)))
theorem s53:Sound Pz 53 G53:=aW fun a b=>az (P53 a b)
def K54:KT:=[(54,22,[(0,[1,2]),(1,[1,5]),(2,[5,10]),(3,[5,10,11]),(4,[4]),(5,[5,10,15]),(6,[4]),(7,[5,19]),(8,[4]),(9,[4])])]
def B54:ax:=bO Pz K54 [(51,G51)] [] []
theorem ahR:aV B54:=ak aj ⟨s51,trivial⟩ trivial trivial
def mQ (a:Mv) (b:Int):List UInt8:=(bif b==1 then (List.drop 0 (List.take 1 (kL (wr .i64 a.aw)))) else (bif b==2 then (List.drop 1 (List.take (kL (wr .i64 a.aw)).length (kL (wr .i64 a.aw)))) else (bif b==3 then (kL (wr .i64 a.aw)) else ((ByteArray.mk #[]).data.toList))))
def wD (a:Mv) (b:Int):Bool:=(E2 (wr .i64 a.aw)&&(bif b==1 then (decide (0≤1)&&decide (1≤Int.ofNat (kL (wr .i64 a.aw)).length)&&true) else (bif b==2 then (decide (0≤1)&&decide (1≤Int.ofNat (kL (wr .i64 a.aw)).length)&&true) else true)))
theorem P54 (a:Mv) (b:Int) (h:wD a b=true):PS Pz 54 [Mv.av a,.int .i64 b] (dS.res (mQ a b)):=pq14 ahR h
def G54:GT:=g2 jl (dI .i64) (fun a b=>bV (wD a b) (dS.res (mQ a b)))
theorem s54:Sound Pz 54 G54:=aW fun a b=>az (P54 a b)
def K26:KT:=[(26,69,[(0,[2,3,4]),(1,[2,3,4,7]),(2,[2,3,4,7,15]),(3,[20]),(4,[6]),(5,[6]),(6,[2,3,4,7,23]),(7,[6]),(8,[2,3,4,7,8]),(9,[2,3,4,7,8,33]),(10,[2,3,4,7,8]),(11,[2,3,4,7,8,37]),(12,[6]),(13,[4,8,9]),(14,[4,9,54]),(15,[4,9]),(16,[4,9,61]),(17,[9]),(18,[6])])]
def B26:ax:=bO Pz K26 [(48,VF),(51,G51),(52,G52),(53,G53),(54,G54)] [] []
theorem acp:aV B26:=ak aj ⟨ZP,s51,s52,s53,s54,trivial⟩ trivial trivial
def xK (a:Pos) (b:Mv) (c:Int):List UInt8:=(bif b.bq then (bif decide (b.to > b.aw) then ((ByteArray.mk #[79,45,79]).data.toList) else ((ByteArray.mk #[79,45,79,45,79]).data.toList)) else (bif b.aD != 0 then (sH b.aD++(ByteArray.mk #[64]).data.toList++kL (wr .i64 b.to)) else (bif decide (gZ a b ≥ 0) then (bif yh a b != 1 then (sH (yh a b)++mQ b c++(ByteArray.mk #[120]).data.toList++kL (wr .i64 b.to)) else (bif !(ByteArray.mk #[120]).data.toList==(ByteArray.mk #[]).data.toList then (bif b.aM != 0 then (mQ b 1++((ByteArray.mk #[120]).data.toList++kL (wr .i64 b.to))++(ByteArray.mk #[61]).data.toList++sH b.aM) else (mQ b 1++((ByteArray.mk #[120]).data.toList++kL (wr .i64 b.to)))) else (bif b.aM != 0 then ((ByteArray.mk #[120]).data.toList++kL (wr .i64 b.to)++(ByteArray.mk #[61]).data.toList++sH b.aM) else ((ByteArray.mk #[120]).data.toList++kL (wr .i64 b.to))))) else (bif yh a b != 1 then (sH (yh a b)++mQ b c++(ByteArray.mk #[]).data.toList++kL (wr .i64 b.to)) else (bif !(ByteArray.mk #[]).data.toList==(ByteArray.mk #[]).data.toList then (bif b.aM != 0 then (mQ b 1++((ByteArray.mk #[]).data.toList++kL (wr .i64 b.to))++(ByteArray.mk #[61]).data.toList++sH b.aM) else (mQ b 1++((ByteArray.mk #[]).data.toList++kL (wr .i64 b.to)))) else (bif b.aM != 0 then ((ByteArray.mk #[]).data.toList++kL (wr .i64 b.to)++(ByteArray.mk #[61]).data.toList++sH b.aM) else ((ByteArray.mk #[]).data.toList++kL (wr .i64 b.to))))))))
def EZ (a:Pos) (b:Mv) (c:Int):Bool:=(E2 (wr .i64 b.to)&&(bif b.bq then true else (bif b.aD != 0 then (decide ((sH b.aD).length+1≤1073741824)&&(decide ((sH b.aD++(ByteArray.mk #[64]).data.toList).length+(kL (wr .i64 b.to)).length≤1073741824)&&true)) else (wR a b&&(bif decide (gZ a b ≥ 0) then (uR a b&&(bif yh a b != 1 then (uR a b&&(wD b c&&(decide ((sH (yh a b)).length+(mQ b c).length≤1073741824)&&(decide ((sH (yh a b)++mQ b c).length+1≤1073741824)&&(decide ((sH (yh a b)++mQ b c++(ByteArray.mk #[120]).data.toList).length+(kL (wr .i64 b.to)).length≤1073741824)&&true))))) else (decide (1+(kL (wr .i64 b.to)).length≤1073741824)&&(bif !(ByteArray.mk #[120]).data.toList==(ByteArray.mk #[]).data.toList then (wD b 1&&(decide ((mQ b 1).length+((ByteArray.mk #[120]).data.toList++kL (wr .i64 b.to)).length≤1073741824)&&(bif b.aM != 0 then (decide ((mQ b 1++((ByteArray.mk #[120]).data.toList++kL (wr .i64 b.to))).length+1≤1073741824)&&(decide ((mQ b 1++((ByteArray.mk #[120]).data.toList++kL (wr .i64 b.to))++(ByteArray.mk #[61]).data.toList).length+(sH b.aM).length≤1073741824)&&true)) else true))) else (bif b.aM != 0 then (decide (((ByteArray.mk #[120]).data.toList++kL (wr .i64 b.to)).length+1≤1073741824)&&(decide (((ByteArray.mk #[120]).data.toList++kL (wr .i64 b.to)++(ByteArray.mk #[61]).data.toList).length+(sH b.aM).length≤1073741824)&&true)) else true))))) else (uR a b&&(bif yh a b != 1 then (uR a b&&(wD b c&&(decide ((sH (yh a b)).length+(mQ b c).length≤1073741824)&&(decide ((sH (yh a b)++mQ b c).length+0≤1073741824)&&(decide ((sH (yh a b)++mQ b c++(ByteArray.mk #[]).data.toList).length+(kL (wr .i64 b.to)).length≤1073741824)&&true))))) else (decide (0+(kL (wr .i64 b.to)).length≤1073741824)&&(bif !(ByteArray.mk #[]).data.toList==(ByteArray.mk #[]).data.toList then (wD b 1&&(decide ((mQ b 1).length+((ByteArray.mk #[]).data.toList++kL (wr .i64 b.to)).length≤1073741824)&&(bif b.aM != 0 then (decide ((mQ b 1++((ByteArray.mk #[]).data.toList++kL (wr .i64 b.to))).length+1≤1073741824)&&(decide ((mQ b 1++((ByteArray.mk #[]).data.toList++kL (wr .i64 b.to))++(ByteArray.mk #[61]).data.toList).length+(sH b.aM).length≤1073741824)&&true)) else true))) else (bif b.aM != 0 then (decide (((ByteArray.mk #[]).data.toList++kL (wr .i64 b.to)).length+1≤1073741824)&&(decide (((ByteArray.mk #[]).data.toList++kL (wr .i64 b.to)++(ByteArray.mk #[61]).data.toList).length+(sH b.aM).length≤1073741824)&&true)) else true))))))))))
theorem P26 (a:Pos) (b:Mv) (c:Int) (h:EZ a b c=true):PS Pz 26 [Pos.av a,Mv.av b,.int .i64 c] (dS.res (xK a b c)):=pq14 acp h
def G26:GT:=g3 aZ jl (dI .i64) (fun a b c=>bV (EZ a b c) (dS.res (xK a b c)))
theorem s26:Sound Pz 26 G26:=cw fun a b c=>az (P26 a b c)
def K27:KT:=[(27,81,[(0,[2,3,4]),(1,[2,3,4,7,8,9]),(2,(2::3::4::(rn 7 4 []))),(3,(2::3::4::(rn 7 4 [15]))),(4,(2::3::4::(rn 7 4 []))),(5,(2::3::4::(rn 7 5 []))),(6,(2::3::4::(rn 7 5 [51]))),(7,(2::3::4::(rn 7 5 []))),(8,(2::3::4::(rn 7 5 [60]))),(9,(2::3::4::(rn 7 5 []))),(10,(2::3::4::(rn 7 4 [69]))),(11,(2::3::4::(rn 7 4 []))),(12,[8,9,72]),(13,[6]),(14,[9,75]),(15,[6]),(16,[78]),(17,[6]),(18,[6])])]
def aaA:ax:=bO Pz K27 [(53,G53)] [] []
theorem RU:aV aaA:=ak aj ⟨s53,trivial⟩ trivial trivial
def PE (p1:(List Mv)) (p2:Pos) (p3:Mv) (x:(Int×Int×Int×Int)):St:=St.mk (.any::.any::.list .mv p1 .arg::.ptr 0 0::.ptr 1 0::.any::.any::.int .i64 x.1::.int .i64 x.2.1::.int .i64 x.2.2.1::.int .i64 x.2.2.2::(an 70 [])) (Hp.mk [(pc p2 []),[.int .i8 p3.aw,.int .i8 p3.to,.int .u8 p3.aM,.int .u8 p3.aD,.bool p3.bq]] [] [] 0 0 0)
def QZ (p1:(List Mv)) (p2:Pos) (p3:Mv):(Int×Int×Int×Int×Bool)→Out:=fun y=>.exit 0 (St.mk (.any::.any::.list .mv p1 .arg::.ptr 0 0::.ptr 1 0::.any::.any::.int .i64 y.1::.int .i64 y.2.1::.int .i64 y.2.2.1::.int .i64 y.2.2.2.1::(an 4 (.bool y.2.2.2.2::(an 65 [])))) (Hp.mk [(pc p2 []),[.int .i8 p3.aw,.int .i8 p3.to,.int .u8 p3.aM,.int .u8 p3.aD,.bool p3.bq]] [] [] 0 0 0))
def Cj (p1:(List Mv)) (p2:Pos) (p3:Mv) (x:(Int×Int×Int×Int)):aF (Int×Int×Int×Int) ((Int×Int×Int×Int×Bool)):=(bif decide (x.2.2.2 < Int.ofNat p1.length) then (bif (p1.getD x.2.2.2.toNat default).aD != 0 then (aF.go (x.1,x.2.1,x.2.2.1,wr .i64 (x.2.2.2+1))) else (bif (p1.getD x.2.2.2.toNat default).bq then (aF.go (x.1,x.2.1,x.2.2.1,wr .i64 (x.2.2.2+1))) else (bif (p1.getD x.2.2.2.toNat default).to != p3.to then (aF.go (x.1,x.2.1,x.2.2.1,wr .i64 (x.2.2.2+1))) else (bif (p1.getD x.2.2.2.toNat default).aw==p3.aw then (aF.go (x.1,x.2.1,x.2.2.1,wr .i64 (x.2.2.2+1))) else (bif yh p2 (p1.getD x.2.2.2.toNat default) != yh p2 p3 then (aF.go (x.1,x.2.1,x.2.2.1,wr .i64 (x.2.2.2+1))) else (bif (p1.getD x.2.2.2.toNat default).aw.tmod 8==p3.aw.tmod 8 then (bif wr .i8 ((p1.getD x.2.2.2.toNat default).aw.tdiv 8)==wr .i8 (p3.aw.tdiv 8) then (aF.go (wr .i64 (x.1+1),wr .i64 (x.2.1+1),wr .i64 (x.2.2.1+1),wr .i64 (x.2.2.2+1))) else (aF.go (wr .i64 (x.1+1),wr .i64 (x.2.1+1),x.2.2.1,wr .i64 (x.2.2.2+1)))) else (bif wr .i8 ((p1.getD x.2.2.2.toNat default).aw.tdiv 8)==wr .i8 (p3.aw.tdiv 8) then (aF.go (wr .i64 (x.1+1),x.2.1,wr .i64 (x.2.2.1+1),wr .i64 (x.2.2.2+1))) else (aF.go (wr .i64 (x.1+1),x.2.1,x.2.2.1,wr .i64 (x.2.2.2+1)))))))))) else (aF.out ((x.1,x.2.1,x.2.2.1,x.2.2.2,decide (x.2.2.2 < Int.ofNat p1.length)))))
def wK (p1:(List Mv)) (p2:Pos) (p3:Mv) (x:(Int×Int×Int×Int)):Bool:=(bif decide (x.2.2.2 < Int.ofNat p1.length) then (decide (0≤x.2.2.2)&&decide (x.2.2.2 < Int.ofNat p1.length)&&(bif (p1.getD x.2.2.2.toNat default).aD != 0 then true else (bif (p1.getD x.2.2.2.toNat default).bq then true else (bif (p1.getD x.2.2.2.toNat default).to != p3.to then true else (bif (p1.getD x.2.2.2.toNat default).aw==p3.aw then true else (uR p2 (p1.getD x.2.2.2.toNat default)&&(uR p2 p3&&true))))))) else true)
def nr (p1:(List Mv)) (p2:Pos) (p3:Mv) (x:(Int×Int×Int×Int)):Option ((Int×Int×Int×Int×Bool)):=cP (fun x=>bif wK p1 p2 p3 x then Cj p1 p2 p3 x else .bad) many x
abbrev Q6 {α:Type} (k:(List Mv)→Pos→Mv→(Int×Int×Int×Int)→α) (s:St):α:=wP s 0 fun q0=>wM s 1 fun q1=>k (tL (ET.mv) (tT s 2)) q0 q1 ((tI (tT s 7)),(tI (tT s 8)),(tI (tT s 9)),(tI (tT s 10)))
theorem VT (p1:(List Mv)) (p2:Pos) (p3:Mv) (x:(Int×Int×Int×Int)) (r:(Int×Int×Int×Int×Bool)) (h:nr p1 p2 p3 x=some r):aB Pz (bj Pz 27 3) (PE p1 p2 p3 x) (QZ p1 p2 p3 r):=smq (m:=12) (fn:=27) RU (Q6 fun _ _ _ x=>some x) (fun o=>match o with | .exit 0 s=>some ((tI (tT s 7)),(tI (tT s 8)),(tI (tT s 9)),(tI (tT s 10)),(tB (tT s 15))) | _=>none) many x r h
def OT (b:Code) (s:St):Tr Out:=Q6 (fun p1 p2 p3 x=>lO b (bj Pz 27 3) s (PE p1 p2 p3 x) (nr p1 p2 p3 x) (QZ p1 p2 p3)) s
theorem Vb:∀ b,aY Pz b (OT b):=fun _ _ _ h=>bS (VT _ _ _ _) h
def B27:ax:=bO Pz K27 [(53,G53)] [(27,3,OT)] []
theorem ag3:aV B27:=ak aj ⟨s53,trivial⟩ ⟨Vb,trivial⟩ trivial
def QJ (a:Pos) (b:Mv) (c:List Mv):Int:=(bif ((nr c a b (0,0,0,0)).getD default).1==0 then (0) else (bif ((nr c a b (0,0,0,0)).getD default).2.1==0 then (1) else (bif ((nr c a b (0,0,0,0)).getD default).2.2.1==0 then (2) else (3))))
def Iw (a:Pos) (b:Mv) (c:List Mv):Bool:=((nr c a b (0,0,0,0)).isSome&&true)
theorem P27 (a:Pos) (b:Mv) (c:List Mv) (h:Iw a b c=true):PS Pz 27 [Pos.av a,Mv.av b,.list .mv c .arg] ((dI .i64).res (QJ a b c)):=pq14 ag3 h
def G27:GT:=g3 aZ jl (dL .mv) (fun a b c=>bV (Iw a b c) ((dI .i64).res (QJ a b c)))
theorem s27:Sound Pz 27 G27:=cw fun a b c=>az (P27 a b c)
def V0:KT:=[(108,96,[(0,(1::(rn 66 13 [92,93,94]))),(1,(1::3::(rn 66 13 [92,93,94]))),(2,(1::(rn 3 5 (rn 66 13 [92,93,94])))),(3,(1::(rn 3 6 (rn 66 13 [92,93,94])))),(4,(1::(rn 3 6 (12::(rn 66 13 [92,93,94]))))),(5,(1::(rn 3 6 (rn 66 13 [92,93,94])))),(6,(1::(rn 3 6 (19::(rn 66 13 [92,93,94]))))),(7,(1::(rn 3 6 (rn 66 13 [92,93,94])))),(8,(1::(rn 3 6 (19::22::(rn 66 13 [92,93,94]))))),(9,(1::(rn 3 6 (19::24::(rn 66 13 [92,93,94]))))),(10,(1::(rn 3 6 (rn 66 13 [92,93,94])))),(11,(1::(rn 3 6 (19::35::(rn 66 13 [92,93,94]))))),(12,(1::(rn 3 6 (rn 66 13 [92,93,94])))),(13,(1::(rn 3 6 (39::(rn 66 13 [92,93,94]))))),(14,(1::(rn 3 6 (47::(rn 66 13 [92,93,94]))))),(15,(1::(rn 3 6 (rn 66 13 [92,93,94])))),(16,(1::(rn 3 6 (rn 66 13 [92,93,94])))),(17,(rn 3 5 (53::(rn 66 13 [92,93,94])))),(18,(rn 3 5 (53::54::(rn 66 13 [92,93,94])))),(19,(rn 3 5 (53::54::(rn 66 13 [92,93,94])))),(20,(rn 4 4 (9::(rn 66 13 [])))),(21,[2]),(22,(rn 3 5 [53,80,92,93,94])),(23,(rn 3 5 [80,92,93,94])),(24,[2]),(25,[2])])]
def SF:ax:=bO Pz V0 [(93,mJ),(162,zN)] [] []
theorem Mp:aV SF:=ak aj ⟨mS,Cl,trivial⟩ trivial trivial
def GL (p1:Pos) (x:(Int×Int×Int×Int×Int×(List Int))):St:=St.mk (.any::.ptr 0 0::.any::.ptr 1 0::.int .i64 x.1::.int .i64 x.2.1::.int .i64 x.2.2.1::.int .i64 x.2.2.2.1::.int .i64 x.2.2.2.2.1::(an 57 (.undef::.undef::.undef::.undef::.undef::.undef::.undef::.undef::.undef::.undef::.undef::.undef::.undef::(an 13 [.undef,.undef,.undef,.any])))) (Hp.mk [(pc p1 []),[.ints .i64 2 x.2.2.2.2.2]] [] [] 0 0 0)
def Lg (p1:Pos):(Int×Int×Int×Int×Int×Bool×(List Int))→Out:=fun y=>.exit 0 (St.mk (.any::.ptr 0 0::.any::.ptr 1 0::.int .i64 y.1::.int .i64 y.2.1::.int .i64 y.2.2.1::.int .i64 y.2.2.2.1::.int .i64 y.2.2.2.2.1::(an 3 (.bool y.2.2.2.2.2.1::(an 53 (.undef::.undef::.undef::.undef::.undef::.undef::.undef::.undef::.undef::.undef::.undef::.undef::.undef::(an 13 [.undef,.undef,.undef,.any])))))) (Hp.mk [(pc p1 []),[.ints .i64 2 y.2.2.2.2.2.2]] [] [] 0 0 0))
def Dr (p1:Pos) (x:(Int×Int×Int×Int×Int×(List Int))):aF (Int×Int×Int×Int×Int×(List Int)) ((Int×Int×Int×Int×Int×Bool×(List Int))):=(bif decide (x.2.2.2.2.1 < 64) then (bif bA (p1.ae.getD (scale 1 x.2.2.2.2.1).toNat 0)==0 then (aF.go (x.1,x.2.1,x.2.2.1,x.2.2.2.1,wr .i64 (x.2.2.2.2.1+1),x.2.2.2.2.2)) else (bif bA (p1.ae.getD (scale 1 x.2.2.2.2.1).toNat 0)==6 then (aF.go (x.1,x.2.1,x.2.2.1,x.2.2.2.1,wr .i64 (x.2.2.2.2.1+1),x.2.2.2.2.2.set (scale 1 (eY (p1.ae.getD (scale 1 x.2.2.2.2.1).toNat 0))).toNat (wr .i64 (x.2.2.2.2.2.getD (scale 1 (eY (p1.ae.getD (scale 1 x.2.2.2.2.1).toNat 0))).toNat 0+1)))) else (bif bA (p1.ae.getD (scale 1 x.2.2.2.2.1).toNat 0)==2 then (aF.go (wr .i64 (x.1+1),x.2.1,x.2.2.1,x.2.2.2.1,wr .i64 (x.2.2.2.2.1+1),x.2.2.2.2.2)) else (bif bA (p1.ae.getD (scale 1 x.2.2.2.2.1).toNat 0)==3 then (bif (wr .i64 (wr .i64 (x.2.2.2.2.1.tdiv 8)+x.2.2.2.2.1.tmod 8)).tmod 2==0 then (aF.go (x.1,wr .i64 (x.2.1+1),x.2.2.1,x.2.2.2.1,wr .i64 (x.2.2.2.2.1+1),x.2.2.2.2.2)) else (aF.go (x.1,x.2.1,wr .i64 (x.2.2.1+1),x.2.2.2.1,wr .i64 (x.2.2.2.2.1+1),x.2.2.2.2.2))) else (aF.go (x.1,x.2.1,x.2.2.1,wr .i64 (x.2.2.2.1+1),wr .i64 (x.2.2.2.2.1+1),x.2.2.2.2.2)))))) else (aF.out ((x.1,x.2.1,x.2.2.1,x.2.2.2.1,x.2.2.2.2.1,decide (x.2.2.2.2.1 < 64),x.2.2.2.2.2))))
def yV (p1:Pos) (x:(Int×Int×Int×Int×Int×(List Int))):Bool:=(bif decide (x.2.2.2.2.1 < 64) then (decide (0≤x.2.2.2.2.1)&&decide (x.2.2.2.2.1 < Int.ofNat 64)&&(bif bA (p1.ae.getD (scale 1 x.2.2.2.2.1).toNat 0)==0 then true else (bif bA (p1.ae.getD (scale 1 x.2.2.2.2.1).toNat 0)==6 then (decide (0≤x.2.2.2.2.1)&&decide (x.2.2.2.2.1 < Int.ofNat 64)&&(decide (0≤eY (p1.ae.getD (scale 1 x.2.2.2.2.1).toNat 0))&&decide (eY (p1.ae.getD (scale 1 x.2.2.2.2.1).toNat 0) < Int.ofNat 2)&&(decide (0≤eY (p1.ae.getD (scale 1 x.2.2.2.2.1).toNat 0))&&decide (eY (p1.ae.getD (scale 1 x.2.2.2.2.1).toNat 0) < Int.ofNat 2)&&true))) else true))) else true)
def bh (p1:Pos) (x:(Int×Int×Int×Int×Int×(List Int))):Option ((Int×Int×Int×Int×Int×Bool×(List Int))):=cP (fun x=>bif yV p1 x then Dr p1 x else .bad) many x
abbrev KH {α:Type} (k:Pos→(Int×Int×Int×Int×Int×(List Int))→α) (s:St):α:=wP s 0 fun q0=>k q0 ((tI (tT s 4)),(tI (tT s 5)),(tI (tT s 6)),(tI (tT s 7)),(tI (tT s 8)),(tN (tH s 1 0)))
theorem Un (p1:Pos) (x:(Int×Int×Int×Int×Int×(List Int))) (r:(Int×Int×Int×Int×Int×Bool×(List Int))) (h:bh p1 x=some r):aB Pz (bj Pz 108 4) (GL p1 x) (Lg p1 r):=smq (m:=12) (fn:=108) Mp (KH fun _ x=>some x) (fun o=>match o with | .exit 0 s=>some ((tI (tT s 4)),(tI (tT s 5)),(tI (tT s 6)),(tI (tT s 7)),(tI (tT s 8)),(tB (tT s 12)),(tN (tH s 1 0))) | _=>none) many x r h
def Ix (b:Code) (s:St):Tr Out:=KH (fun p1 x=>lO b (bj Pz 108 4) s (GL p1 x) (bh p1 x) (Lg p1)) s
theorem MG:∀ b,aY Pz b (Ix b):=fun _ _ _ h=>bS (Un _ _) h
def agU:ax:=bO Pz V0 [(93,mJ),(162,zN)] [(108,4,Ix)] []
theorem aaU:aV agU:=ak aj ⟨mS,Cl,trivial⟩ ⟨MG,trivial⟩ trivial
def Fx (a:Pos):Bool:=(bif a.variant==0 then (bif a.variant==0 then (bif ((bh a (0,0,0,0,0,List.replicate 2 0)).getD default).2.2.2.1==0 then (bif decide (wr .i64 (wr .i64 (((bh a (0,0,0,0,0,List.replicate 2 0)).getD default).1+((bh a (0,0,0,0,0,List.replicate 2 0)).getD default).2.1)+((bh a (0,0,0,0,0,List.replicate 2 0)).getD default).2.2.1)≤1) then (true) else (bif ((bh a (0,0,0,0,0,List.replicate 2 0)).getD default).1==0 then (bif ((bh a (0,0,0,0,0,List.replicate 2 0)).getD default).2.1==0 then (true) else (((bh a (0,0,0,0,0,List.replicate 2 0)).getD default).2.2.1==0)) else (false))) else (false)) else (bif a.variant==3 then (bif a.variant==3 then (bif wr .i64 (wr .i64 (wr .i64 (((bh a (0,0,0,0,0,List.replicate 2 0)).getD default).2.2.2.1+((bh a (0,0,0,0,0,List.replicate 2 0)).getD default).1)+((bh a (0,0,0,0,0,List.replicate 2 0)).getD default).2.1)+((bh a (0,0,0,0,0,List.replicate 2 0)).getD default).2.2.1)==0 then (bI BinOp.eql (((bh a (0,0,0,0,0,List.replicate 2 0)).getD default).2.2.2.2.2.2==((List.replicate 2 0).set 0 1).set 1 1&&true)) else (false)) else (false)) else (bif a.variant==5 then (bif wr .i64 (wr .i64 (wr .i64 (((bh a (0,0,0,0,0,List.replicate 2 0)).getD default).2.2.2.1+((bh a (0,0,0,0,0,List.replicate 2 0)).getD default).1)+((bh a (0,0,0,0,0,List.replicate 2 0)).getD default).2.1)+((bh a (0,0,0,0,0,List.replicate 2 0)).getD default).2.2.1)==0 then (bI BinOp.eql (((bh a (0,0,0,0,0,List.replicate 2 0)).getD default).2.2.2.2.2.2==((List.replicate 2 0).set 0 1).set 1 1&&true)) else (false)) else (false)))) else (bif a.variant==1 then (bif ((bh a (0,0,0,0,0,List.replicate 2 0)).getD default).2.2.2.1==0 then (bif decide (wr .i64 (wr .i64 (((bh a (0,0,0,0,0,List.replicate 2 0)).getD default).1+((bh a (0,0,0,0,0,List.replicate 2 0)).getD default).2.1)+((bh a (0,0,0,0,0,List.replicate 2 0)).getD default).2.2.1)≤1) then (true) else (bif ((bh a (0,0,0,0,0,List.replicate 2 0)).getD default).1==0 then (bif ((bh a (0,0,0,0,0,List.replicate 2 0)).getD default).2.1==0 then (true) else (((bh a (0,0,0,0,0,List.replicate 2 0)).getD default).2.2.1==0)) else (false))) else (false)) else (bif a.variant==3 then (bif a.variant==3 then (bif wr .i64 (wr .i64 (wr .i64 (((bh a (0,0,0,0,0,List.replicate 2 0)).getD default).2.2.2.1+((bh a (0,0,0,0,0,List.replicate 2 0)).getD default).1)+((bh a (0,0,0,0,0,List.replicate 2 0)).getD default).2.1)+((bh a (0,0,0,0,0,List.replicate 2 0)).getD default).2.2.1)==0 then (bI BinOp.eql (((bh a (0,0,0,0,0,List.replicate 2 0)).getD default).2.2.2.2.2.2==((List.replicate 2 0).set 0 1).set 1 1&&true)) else (false)) else (false)) else (bif a.variant==5 then (bif wr .i64 (wr .i64 (wr .i64 (((bh a (0,0,0,0,0,List.replicate 2 0)).getD default).2.2.2.1+((bh a (0,0,0,0,0,List.replicate 2 0)).getD default).1)+((bh a (0,0,0,0,0,List.replicate 2 0)).getD default).2.1)+((bh a (0,0,0,0,0,List.replicate 2 0)).getD default).2.2.1)==0 then (bI BinOp.eql (((bh a (0,0,0,0,0,List.replicate 2 0)).getD default).2.2.2.2.2.2==((List.replicate 2 0).set 0 1).set 1 1&&true)) else (false)) else (false)))))
def De (a:Pos):Bool:=((bh a (0,0,0,0,0,List.replicate 2 0)).isSome&&true)
theorem agt (a:Pos) (h:De a=true):PS Pz 108 [Pos.av a] (dB.res (Fx a)):=pq14 aaU h
def aan:GT:=g1 aZ (fun a=>bV (De a) (dB.res (Fx a)))
theorem adJ:Sound Pz 108 aan:=aH fun a=>az (agt a)
def K55:KT:=[(55,43,[(0,[1,2]),(1,[1,2,8]),(2,[2]),(3,[1,2,3]),(4,[1,2,3,14]),(5,[2]),(6,[1,2,19]),(7,[1,2,4,5]),(8,[1,2,4,5,22]),(9,[1,2,4]),(10,[1,2,4,5]),(11,[1,2,4,5,25]),(12,[2]),(13,[2,5,31]),(14,[2]),(15,[2]),(16,[1,2,36]),(17,[2]),(18,[2,40]),(19,[2]),(20,[2])])]
def B55:ax:=bO Pz K55 [(10,Tl),(38,LS),(22,G22),(56,Vv),(108,aan)] [] []
theorem ab5:aV B55:=ak aj ⟨Vy,C6,s22,s56,adJ,trivial⟩ trivial trivial
def Vl (a:Pos):(Int×Int):=(bif !yd a then ⟨(0),(0)⟩ else (bif (KN a).1 != 0 then ⟨((KN a).1),((KN a).2)⟩ else (bif Int.ofNat (eG a).length==0 then (bif a.aa==1 then (bif a.variant==4 then ⟨(2),(8)⟩ else (bif mM a a.aa then ⟨(1),(1)⟩ else ⟨(3),(2)⟩)) else (bif a.variant==4 then ⟨(1),(8)⟩ else (bif mM a a.aa then ⟨(2),(1)⟩ else ⟨(3),(2)⟩))) else (bif Fx a then ⟨(3),(3)⟩ else (bif decide (a.half ≥ 150) then ⟨(3),(4)⟩ else ⟨(0),(0)⟩)))))
def Es (a:Pos):Bool:=(bif !yd a then true else (Bl (a)&&(bif (KN a).1 != 0 then true else (uE (a)&&(bif Int.ofNat (eG a).length==0 then (bif a.aa==1 then (bif a.variant==4 then true else (iK (a) (a.aa)&&true)) else (bif a.variant==4 then true else (iK (a) (a.aa)&&true))) else (De (a)&&true))))))
theorem P55 (a:Pos) (h:Es a=true):PS Pz 55 [Pos.av a] ((dR .u8 .u8).res (Vl a)):=pq14 ab5 h
def G55:GT:=g1 aZ (fun a=>bV (Es a) ((dR .u8 .u8).res (Vl a)))
theorem s55:Sound Pz 55 G55:=aH fun a=>az (P55 a)
def K28:KT:=[(28,17,[(0,[2,3]),(1,[5]),(2,[5,12]),(3,[4]),(4,[16]),(5,[4]),(6,[4])])]
def B28:ax:=bO Pz K28 [(47,G47),(55,G55),(56,Vv)] [] []
theorem ahZ:aV B28:=ak aj ⟨s47,s55,s56,trivial⟩ trivial trivial
def PG (a:Pos) (b:Mv):List UInt8:=(bif (Vl (Af a b)).2==1 then ((ByteArray.mk #[35]).data.toList) else (bif mM (Af a b) (Af a b).aa then ((ByteArray.mk #[43]).data.toList) else ((ByteArray.mk #[]).data.toList)))
def Bn (a:Pos) (b:Mv):Bool:=(Ex a b&&(Es (Af a b)&&(bif (Vl (Af a b)).2==1 then true else (iK (Af a b) (Af a b).aa&&true))))
theorem P28 (a:Pos) (b:Mv) (h:Bn a b=true):PS Pz 28 [Pos.av a,Mv.av b] (dS.res (PG a b)):=pq14 ahZ h
def XY:GT:=g2 aZ jl (fun a b=>bV (Bn a b) (dS.res (PG a b)))
theorem s28:Sound Pz 28 XY:=aW fun a b=>az (P28 a b)
def K12:KT:=[(12,22,[(0,[2,3,4]),(1,[2,3,4,10]),(2,[6]),(3,[6])])]
def B12:ax:=bO Pz K12 [(25,G25),(26,G26),(27,G27),(28,XY)] [] []
theorem afG:aV B12:=ak aj ⟨s25,s26,s27,s28,trivial⟩ trivial trivial
def Ve (a:Pos) (b:Mv) (c:List Mv):List UInt8:=(bif !P7 c b then ((ByteArray.mk #[]).data.toList) else (xK a b (QJ a b c)++PG a b))
def BE (a:Pos) (b:Mv) (c:List Mv):Bool:=(EC c b&&(bif !P7 c b then true else (Iw a b c&&(EZ a b (QJ a b c)&&(Bn a b&&(decide ((xK a b (QJ a b c)).length+(PG a b).length≤1073741824)&&true))))))
theorem P12 (a:Pos) (b:Mv) (c:List Mv) (h:BE a b c=true):PS Pz 12 [Pos.av a,Mv.av b,.list .mv c .arg] (dS.res (Ve a b c)):=pq14 afG h
def G12:GT:=g3 aZ jl (dL .mv) (fun a b c=>bV (BE a b c) (dS.res (Ve a b c)))
theorem s12:Sound Pz 12 G12:=cw fun a b c=>az (P12 a b c)
def K16:KT:=[(16,10,[(0,[2,3]),(1,[4])])]
def B16:ax:=bO Pz K16 [(10,Tl),(12,G12)] [] []
theorem ajr:aV B16:=ak aj ⟨Vy,s12,trivial⟩ trivial trivial
def LW (a:Pos) (b:Mv):List UInt8:=(Ve a b (eG a))
def yl (a:Pos) (b:Mv):Bool:=(uE a&&(BE a b (eG a)&&true))
theorem P16 (a:Pos) (b:Mv) (h:yl a b=true):PS Pz 16 [Pos.av a,Mv.av b] (dS.res (LW a b)):=pq14 ajr h
def G16:GT:=g2 aZ jl (fun a b=>bV (yl a b) (dS.res (LW a b)))
theorem s16:Sound Pz 16 G16:=aW fun a b=>az (P16 a b)
end Kz
end
noncomputable section
namespace Kz
open Go Go.RowKit Go.Proofs
set_option maxRecDepth 100000
variable {p:Pos} {m:Mv} {l:List Mv}
theorem Te:(List.range 64).all (fun n=>E2 (n:Int)&&(kL (n:Int)==bD (n:Int)))=true:=by kernel_rfl
theorem UC:(List.range 7).all (fun n=>sH (n:Int)==bw (n:Int))=true:=by kernel_rfl
theorem U2:(List.range 256).all (fun n=>Nk (bif !Et (n:Int) then 0 else (n:Int))==bk (bif !eR (n:Int) then 0 else (n:Int)))=true:=by kernel_rfl
theorem sqR {n:Int} (h0:0≤n) (h1:n < 64):E2 (wr .i64 n)=true∧kL (wr .i64 n)=bD (wr .i64 n):=by
 rw [aI (by omega) (by omega)]
 have t:=se Te (n:=n.toNat) (by omega)
 rw [Int.toNat_of_nonneg h0] at t
 simp only [Bool.and_eq_true,beq_iff_eq] at t
 exact t
theorem ltR {k:Int} (h0:0≤k) (h1:k≤6):sH k=bw k:=by
 have t:=se UC (n:=k.toNat) (by omega)
 rw [Int.toNat_of_nonneg h0] at t
 exact beq_iff_eq.1 t
theorem kdR (hp:aG p) (f0:0≤m.aw) (f1:m.aw < 64):uR p m=true∧yh p m=bU p m:=by
 have hin:0≤p.ae.getD m.aw.toNat 0∧p.ae.getD m.aw.toNat 0≤255:=fB hp.b0 (by omega) _
 have t:=se U2 (n:=(p.ae.getD m.aw.toNat 0).toNat) (by omega)
 rw [Int.toNat_of_nonneg hin.1,beq_iff_eq] at t
 unfold uR yh Dl M3 bU Lv ER
 rw [aI (by omega) (by omega),fA,decide_eq_false (show ¬ m.aw < 0 by omega),decide_eq_false (show ¬ m.aw > 63 by omega),decide_eq_true (show m.aw ≥ 0 from f0),decide_eq_true f1,decide_eq_true (show m.aw < Int.ofNat 64 from f1),cond_true,cond_false,cond_false,Bool.not_true,cond_false]
 refine ⟨?_,t⟩
 cases Et (p.ae.getD m.aw.toNat 0) <;> rfl
def Two {S T A B:Type} (R:S→T→Prop) (Q:A→B→Prop):aF S A→aF T B→Prop
 | .go x,.go y=>R x y
 | .out a,.out b=>Q a b
 | .bad,_=>True
 | _,_=>False
theorem Ef {S T A B:Type} {R:S→T→Prop} {Q:A→B→Prop} {f:S→aF S A} {g:T→aF T B} (h:∀ x y,R x y→Two R Q (f x) (g y)):∀ (n:Nat) (x:S) (y:T),R x y→∀ a,cP f n x=some a→∃ b,cP g n y=some b∧Q a b
 | 0,_,_,_,_,e=>by cases e
 | n+1,x,y,hr,a,e=>by
  have t:=h x y hr
  unfold cP at e ⊢
  revert t e
  cases f x with
  | go x' =>
   cases g y with
   | go y'=>exact fun t e=>Ef h n x' y' t a e
   | out b=>exact fun t _=>t.elim
   | bad=>exact fun t _=>t.elim
  | out a' =>
   cases g y with
   | go y'=>exact fun t _=>t.elim
   | out b=>exact fun t e=>⟨b,rfl,by cases e; exact t⟩
   | bad=>exact fun t _=>t.elim
  | bad=>exact fun _ e=>by cases e
def SRw (l:List Mv) (x:Bool×Bool×Bool×Int) (y:Int×Int×Int×Int):Prop :=
 (0≤x.2.2.2∧x.2.2.2≤(l.length:Int))∧y.2.2.2=x.2.2.2∧((0≤y.1∧y.1≤x.2.2.2)∧(y.1==0)=!x.1)∧((0≤y.2.1∧y.2.1≤x.2.2.2)∧(y.2.1==0)=!x.2.1)∧((0≤y.2.2.1∧y.2.2.1≤x.2.2.2)∧(y.2.2.1==0)=!x.2.2.1)
def SQ (a:Bool×Bool×Bool×Int×Bool) (b:Int×Int×Int×Int×Bool):Prop:=(b.1==0)=!a.1∧(b.2.1==0)=!a.2.1∧(b.2.2.1==0)=!a.2.2.1
theorem JN {n:Int} {i:Int} {b:Bool} (h:(0≤n∧n≤i)∧(n==0)=!b) (hi:i≤1000000):(0≤wr .i64 (n+1)∧wr .i64 (n+1)≤i+1)∧(wr .i64 (n+1)==0)=!true:=by
 rw [aI (by omega) (by omega)]
 exact ⟨by omega,beq_eq_false_iff_ne.2 (by omega)⟩
theorem qx {n:Int} {i:Int} {b:Bool} (h:(0≤n∧n≤i)∧(n==0)=!b):(0≤n∧n≤i+1)∧(n==0)=!b:=⟨by omega,h.2⟩
theorem Fu (hp:aG p) (hl:l.length≤1000000) (hm:oV m) (hx:∀ x ∈ l,oV x) (x:Bool×Bool×Bool×Int) (y:Int×Int×Int×Int) (h:SRw l x y) :
  Two (SRw l) SQ (bif ru l (Int.ofNat l.length) p m x then xr l (Int.ofNat l.length) p m x else .bad) (bif wK l p m y then Cj l p m y else .bad):=by
 obtain ⟨a,b,c,i⟩:=x
 obtain ⟨n,f,r,j⟩:=y
 obtain ⟨⟨h0,h1⟩,e,ha,hb,hc⟩:=h
 dsimp only at h0 h1 e ha hb hc
 subst e
 cases hok:ru l (Int.ofNat l.length) p m (a,b,c,j) with
 | false=>exact trivial
 | true =>
  unfold wK xr Cj
  dsimp only
  by_cases hi:j < Int.ofNat l.length
  ·have hi':j < (l.length:Int):=hi
   have hin:=hx _ (ct (l:=l) (i:=j.toNat) (d:=default) (by omega))
   rw [decide_eq_true hi,decide_eq_true h0]
   generalize l.getD j.toNat default=x at hin
   obtain ⟨o1,e1⟩:=kdR (p:=p) hp hin.f0 hin.f1
   obtain ⟨o2,e2⟩:=kdR (p:=p) hp hm.f0 hm.f1
   rw [o1,o2,e1,e2,aI (n:=j+1) (by omega) (by omega)]
   have k1:(bif x.aD != 0 then true else bif x.bq then true else bif x.to != m.to then true else bif x.aw==m.aw then true else (true&&(true&&true)))=true:=by
    cases (x.aD != 0) <;> cases x.bq <;> cases (x.to != m.to) <;> cases (x.aw==m.aw) <;> rfl
   rw [show (true&&true&&(bif x.aD != 0 then true else bif x.bq then true else bif x.to != m.to then true else bif x.aw==m.aw then true else (true&&(true&&true))))=true from k1]
   simp only [cond_true]
   have skip:Two (SRw l) SQ (.go (a,b,c,j+1)) (.go (n,f,r,j+1)):=⟨⟨by dsimp only; omega,by dsimp only; omega⟩,rfl,qx ha,qx hb,qx hc⟩
   have pl:MX x=bif x.aD != 0 then false else !x.bq:=by
    unfold MX bne
    cases (x.aD==0) <;> rfl
   rw [pl]
   cases hd:(x.aD != 0) with
   | true =>
    simp only [cond_true,Bool.not_false]
    cases bI BinOp.eql (x.aw==m.aw&&(x.to==m.to&&(x.aM==m.aM&&(x.aD==m.aD&&(x.bq==m.bq&&true))))) <;> exact skip
   | false =>
    cases hcas:x.bq with
    | true =>
     simp only [cond_true,cond_false,Bool.not_true,Bool.not_false]
     cases bI BinOp.eql (x.aw==m.aw&&(x.to==m.to&&(x.aM==m.aM&&(x.aD==m.aD&&(true==m.bq&&true))))) <;> exact skip
    | false =>
     cases hto:(x.to != m.to) with
     | true =>
      simp only [cond_true,cond_false,Bool.not_true,Bool.not_false]
      cases bI BinOp.eql (x.aw==m.aw&&(x.to==m.to&&(x.aM==m.aM&&(x.aD==m.aD&&(false==m.bq&&true))))) <;> exact skip
     | false =>
      cases hf:(x.aw==m.aw) with
      | true =>
       simp only [cond_true,cond_false,Bool.not_true,Bool.not_false]
       cases bI BinOp.eql (true&&(x.to==m.to&&(x.aM==m.aM&&(x.aD==m.aD&&(false==m.bq&&true))))) <;> exact skip
      | false =>
       have e0:bI BinOp.eql (false&&(x.to==m.to&&(x.aM==m.aM&&(x.aD==m.aD&&(false==m.bq&&true)))))=false:=rfl
       rw [e0]
       simp only [cond_true,cond_false,Bool.not_true,Bool.not_false]
       cases (bU p x != bU p m) with
       | true=>exact skip
       | false =>
        simp only [cond_false]
        have go:∀ {b' c':Bool} {f' r':Int},((0≤f'∧f'≤j+1)∧(f'==0)=!b')→((0≤r'∧r'≤j+1)∧(r'==0)=!c')→Two (SRw l) SQ (.go (true,b',c',j+1)) (.go (wr .i64 (n+1),f',r',j+1)):=fun hb' hc'=>⟨⟨by dsimp only; omega,by dsimp only; omega⟩,rfl,JN ha (by omega),hb',hc'⟩
        have fb:∀ {n i:Int} {b:Bool},b=false→(0≤n∧n≤i)∧(n==0)=!b→(0≤n∧n≤i+1)∧(n==0)=!false:=fun e h=>by subst e; exact qx h
        cases b <;> cases c <;> cases (x.aw.tmod 8==m.aw.tmod 8) <;> cases (wr IntKind.i8 (x.aw.tdiv 8)==wr IntKind.i8 (m.aw.tdiv 8)) <;>
         first
         | exact go (qx hb) (qx hc)
         | exact go (JN hb (by omega)) (qx hc)
         | exact go (qx hb) (JN hc (by omega))
         | exact go (JN hb (by omega)) (JN hc (by omega))
  ·rw [decide_eq_false hi]
   exact ⟨ha.2,hb.2,hc.2⟩
theorem LF (hp:aG p) (hl:l.length≤1000000) (hm:oV m) (hx:∀ x ∈ l,oV x):Iw p m l=true∧(∀ c,wD m c=true)∧mQ m (QJ p m l)=Cx p m l∧∀ c,(mQ m c).length≤2:=by
 obtain ⟨s1,s2⟩:=sqR hm.f0 hm.f1
 have e4:(bD (wr .i64 m.aw)).length=2:=by rw [(uM hm.f0 hm.f1).2]; rfl
 have e5:decide (1≤Int.ofNat (bD (wr .i64 m.aw)).length)=true:=by rw [e4]; rfl
 have i0:=AG hp hl hm hx
 obtain ⟨a,ea⟩:=Option.isSome_iff_exists.1 i0
 obtain ⟨b,eb,q1,q2,q3⟩:=Ef (Fu hp hl hm hx) many (false,false,false,0) (0,0,0,0) ⟨⟨Int.le_refl _,by dsimp only; omega⟩,rfl,⟨⟨Int.le_refl _,Int.le_refl _⟩,rfl⟩,⟨⟨Int.le_refl _,Int.le_refl _⟩,rfl⟩,⟨Int.le_refl _,Int.le_refl _⟩,rfl⟩ a ea
 have eb':nr l p m (0,0,0,0)=some b:=eb
 refine ⟨?_,fun c => ?_,?_,fun c => ?_⟩
 ·unfold Iw
  rw [eb']; rfl
 ·unfold wD
  rw [s1,s2,e5]
  cases (c==1) <;> cases (c==2) <;> rfl
 ·unfold QJ Cx mQ
  rw [eb',ea,s2]
  simp only [Option.getD_some]
  rw [q1,q2,q3]
  cases a.1 <;> cases a.2.1 <;> cases a.2.2.1 <;> rfl
 ·unfold mQ
  rw [s2]
  generalize bD (wr .i64 m.aw)=F at e4
  cases (c==1) <;> cases (c==2) <;> cases (c==3) <;> simp <;> omega
end Kz
end
noncomputable section
namespace Kz
open Go Go.RowKit
set_option maxRecDepth 100000
set_option maxHeartbeats 1000000
def Lf:List UInt8:=(([0,1,2,2,3,3,3,3,4,4,4,4,4,4,4,4]++List.replicate 16 5)++List.replicate 32 6++List.replicate 64 7)++List.replicate 128 8
def pw (y:BitVec 64):Int:=wr .i64 (Int.ofNat (Lf[(wr .u8 (Int.ofNat y.toNat)).toNat]?.getD 0).toNat)
theorem Cv:∀ (j:Fin 8) (v:Fin 256),2 ^ j.val≤v.val→v.val < 2 ^ (j.val+1)→(Lf[v.val]?.getD 0).toNat=j.val+1:=by decide +kernel
theorem L5 {y:BitVec 64} {j:Nat} (h0:2 ^ j≤y.toNat) (h1:y.toNat < 2 ^ (j+1)) (h2:y.toNat < 256):pw y=j+1:=by
 have hj:j < 8:=by
  refine Classical.byContradiction fun hn => ?_
  have:=Nat.pow_le_pow_right (n:=2) (by omega) (show 8≤j by omega)
  omega
 unfold pw
 rw [show Int.ofNat y.toNat=(y.toNat:Int) from rfl,oZ (by omega) (by omega),Int.toNat_natCast,Cv ⟨j,hj⟩ ⟨y.toNat,h2⟩ h0 h1]
 exact aI (by simp; omega) (by simp; omega)
theorem K9 (a:BitVec 64):Hm a=bif decide (a.toNat ≥ 4294967296) then (bif decide ((a >>> 32).toNat ≥ 65536) then (bif decide ((a >>> 32 >>> 16).toNat ≥ 256) then wr .i64 (wr .i64 (wr .i64 (32+16)+8)+pw (a >>> 32 >>> 16 >>> 8)) else wr .i64 (wr .i64 (32+16)+pw (a >>> 32 >>> 16))) else (bif decide ((a >>> 32).toNat ≥ 256) then wr .i64 (wr .i64 (32+8)+pw (a >>> 32 >>> 8)) else wr .i64 (32+pw (a >>> 32)))) else (bif decide (a.toNat ≥ 65536) then (bif decide ((a >>> 16).toNat ≥ 256) then wr .i64 (wr .i64 (16+8)+pw (a >>> 16 >>> 8)) else wr .i64 (16+pw (a >>> 16))) else (bif decide (a.toNat ≥ 256) then wr .i64 (8+pw (a >>> 8)) else wr .i64 (0+pw a))):=by kernel_rfl
def Vp (x:BitVec 64) (j:Nat):Prop:=2 ^ j≤x.toNat∧x.toNat < 2 ^ (j+1)
theorem Vp.shr {x:BitVec 64} {j:Nat} (h:Vp x j) (k:Nat) (hk:2 ^ k≤x.toNat):k≤j∧Vp (x >>> k) (j - k):=by
 obtain ⟨h0,h1⟩:=h
 have hkj:k≤j:=by
  refine Classical.byContradiction fun hn => ?_
  have:=Nat.pow_le_pow_right (n:=2) (by omega) (show j+1≤k by omega)
  omega
 refine ⟨hkj,?_⟩
 unfold Vp
 rw [BitVec.toNat_ushiftRight,Nat.shiftRight_eq_div_pow]
 have hp:=Nat.two_pow_pos k
 constructor
 ·rw [Nat.le_div_iff_mul_le hp,← Nat.pow_add,Nat.sub_add_cancel hkj]
  exact h0
 ·rw [Nat.div_lt_iff_lt_mul hp,← Nat.pow_add,show j - k+1+k=j+1 by omega]
  exact h1
theorem Kl {x:BitVec 64} {j:Nat} (h:Vp x j) (hj:j < 64):Hm x=j+1:=by
 have w:∀ n:Int,0≤n→n≤1000→wr .i64 n=n:=fun n a b=>aI (by omega) (by omega)
 have fin:∀ {y:BitVec 64} {i:Nat},Vp y i→y.toNat < 256→pw y=i+1:=fun h h2=>L5 h.1 h.2 h2
 rw [K9]
 refine au (P:=fun n:Int=>n=j+1) (fun a1 => ?_) fun a1 => ?_
 ·have a1:2 ^ 32≤x.toNat:=by simpa using a1
  obtain ⟨b1,t1⟩:=h.shr 32 a1
  have l1:(x >>> 32).toNat < 2 ^ 32:=by rw [BitVec.toNat_ushiftRight,Nat.shiftRight_eq_div_pow]; have:=x.isLt; omega
  generalize x >>> 32=y at t1 l1 ⊢
  refine au (P:=fun n:Int=>n=j+1) (fun a2 => ?_) fun a2 => ?_
  ·have a2:2 ^ 16≤y.toNat:=by simpa using a2
   obtain ⟨b2,t2⟩:=t1.shr 16 a2
   have l2:(y >>> 16).toNat < 2 ^ 16:=by rw [BitVec.toNat_ushiftRight,Nat.shiftRight_eq_div_pow]; omega
   generalize y >>> 16=z at t2 l2 ⊢
   refine au (P:=fun n:Int=>n=j+1) (fun a3 => ?_) fun a3 => ?_
   ·have a3:2 ^ 8≤z.toNat:=by simpa using a3
    obtain ⟨b3,t3⟩:=t2.shr 8 a3
    rw [fin t3 (by rw [BitVec.toNat_ushiftRight,Nat.shiftRight_eq_div_pow]; omega)]
    rw [w (32+16) (by omega) (by omega),w (32+16+8) (by omega) (by omega),w _ (by omega) (by omega)]
    omega
   ·have a3:z.toNat < 256:=by simpa using a3
    rw [fin t2 a3,w (32+16) (by omega) (by omega),w _ (by omega) (by omega)]
    omega
  ·have a2:y.toNat < 65536:=by simpa using a2
   refine au (P:=fun n:Int=>n=j+1) (fun a3 => ?_) fun a3 => ?_
   ·have a3:2 ^ 8≤y.toNat:=by simpa using a3
    obtain ⟨b3,t3⟩:=t1.shr 8 a3
    rw [fin t3 (by rw [BitVec.toNat_ushiftRight,Nat.shiftRight_eq_div_pow]; omega)]
    rw [w (32+8) (by omega) (by omega),w _ (by omega) (by omega)]
    omega
   ·have a3:y.toNat < 256:=by simpa using a3
    rw [fin t1 a3,w _ (by omega) (by omega)]
    omega
 ·have a1:x.toNat < 4294967296:=by simpa using a1
  refine au (P:=fun n:Int=>n=j+1) (fun a2 => ?_) fun a2 => ?_
  ·have a2:2 ^ 16≤x.toNat:=by simpa using a2
   obtain ⟨b2,t2⟩:=h.shr 16 a2
   have l2:(x >>> 16).toNat < 2 ^ 16:=by rw [BitVec.toNat_ushiftRight,Nat.shiftRight_eq_div_pow]; omega
   generalize x >>> 16=z at t2 l2 ⊢
   refine au (P:=fun n:Int=>n=j+1) (fun a3 => ?_) fun a3 => ?_
   ·have a3:2 ^ 8≤z.toNat:=by simpa using a3
    obtain ⟨b3,t3⟩:=t2.shr 8 a3
    rw [fin t3 (by rw [BitVec.toNat_ushiftRight,Nat.shiftRight_eq_div_pow]; omega)]
    rw [w (16+8) (by omega) (by omega),w _ (by omega) (by omega)]
    omega
   ·have a3:z.toNat < 256:=by simpa using a3
    rw [fin t2 a3,w _ (by omega) (by omega)]
    omega
  ·have a2:x.toNat < 65536:=by simpa using a2
   refine au (P:=fun n:Int=>n=j+1) (fun a3 => ?_) fun a3 => ?_
   ·have a3:2 ^ 8≤x.toNat:=by simpa using a3
    obtain ⟨b3,t3⟩:=h.shr 8 a3
    rw [fin t3 (by rw [BitVec.toNat_ushiftRight,Nat.shiftRight_eq_div_pow]; omega)]
    rw [w _ (by omega) (by omega)]
    omega
   ·have a3:x.toNat < 256:=by simpa using a3
    rw [fin h a3,w _ (by omega) (by omega)]
    omega
theorem UZ {x:BitVec 64} {j:Nat} (hj:j < 64) (h1:x.getLsbD j=true) (h2:∀ i,j < i→i < 64→x.getLsbD i=false):Vp x j:=by
 constructor
 ·exact Nat.ge_two_pow_of_testBit h1
 ·refine Nat.lt_pow_two_of_testBit _ fun i hi => ?_
  by_cases h:i < 64
  ·exact h2 i (by omega) h
  ·exact Nat.testBit_lt_two_pow (Nat.lt_of_lt_of_le x.isLt (Nat.pow_le_pow_right (by omega) (by omega)))
theorem FA {x:BitVec 64} {j:Nat} (hj:j < 64) (h1:x.getLsbD j=true) (h2:∀ i,j < i→i < 64→x.getLsbD i=false):BK x=j:=by
 unfold BK ME
 rw [Kl (UZ hj h1 h2) hj,aI (n:=64 - ((j:Int)+1)) (by omega) (by omega),aI (by omega) (by omega)]
 omega
def nxt (a d:Nat):Option Nat :=
 let r:=a / 8
 let f:=a % 8
 match d with
 | 0=>if r < 7 then some (a+8) else none
 | 1=>if r < 7∧f < 7 then some (a+9) else none
 | 2=>if f < 7 then some (a+1) else none
 | 3=>if 0 < r∧f < 7 then some (a - 7) else none
 | 4=>if 0 < r then some (a - 8) else none
 | 5=>if 0 < r∧0 < f then some (a - 9) else none
 | 6=>if 0 < f then some (a - 1) else none
 | _=>if r < 7∧0 < f then some (a+7) else none
def Ij:Nat→Nat→Nat→List Nat
 | 0,_,_=>[]
 | n+1,a,d=>match nxt a d with
  | some s=>s::Ij n s d
  | none=>[]
def jc (a d:Nat):List Nat:=Ij 8 a d
def eW:List Nat→BitVec 64
 | []=>0#64
 | s::l=>1#64 <<< s|||eW l
def uw (d:Nat):List Nat→Bool
 | []=>true
 | s::l=>decide (s < 64)&&jc s d==l&&uw d l
def up (d:Nat):Bool:=d==0 || d==1 || d==2 || d==7
def od (d:Nat):List Nat→Bool
 | []=>true
 | s::l=>l.all (fun t=>if up d then decide (s < t) else decide (t < s))&&od d l
theorem wu:∀ (a:Fin 64) (d:Fin 8),iL a.val d.val=eW (jc a.val d.val)∧uw d.val (jc a.val d.val)=true∧od d.val (jc a.val d.val)=true:=by decide +kernel
theorem fo:∀ (l:List Nat) (t:Nat),t < 64→(eW l).getLsbD t=decide (t ∈ l)
 | [],t,_=>by simp [eW]
 | s::l,t,ht=>by
  rw [eW,BitVec.getLsbD_or,fo l t ht,BitVec.getLsbD_shiftLeft,BitVec.getLsbD_one]
  rcases Nat.lt_trichotomy t s with h | rfl | h
  ·have:¬ t=s:=by omega
   simp [h,this]
  ·simp [ht]
  ·have h1:¬ t=s:=by omega
   have h2:¬ t - s=0:=by omega
   have h3:¬ t < s:=by omega
   simp [h1,h2,h3]
def seen (occ:BitVec 64):List Nat→List Nat
 | []=>[]
 | s::l=>s::if occ.getLsbD s then [] else seen occ l
theorem zW {occ:BitVec 64}:∀ {l:List Nat},(∀ s ∈ l,occ.getLsbD s=false)→seen occ l=l
 | [],_=>rfl
 | s::l,h=>by
  rw [seen,h s (by simp),zW fun t ht=>h t (by simp [ht])]
  rfl
theorem ua {occ:BitVec 64}:∀ {pre:List Nat} {n:Nat} {post:List Nat},(∀ s ∈ pre,occ.getLsbD s=false)→occ.getLsbD n=true→seen occ (pre++n::post)=pre++[n]
 | [],n,post,_,h=>by
  show n::(if occ.getLsbD n then [] else seen occ post)=[n]
  rw [h]; rfl
 | s::pre,n,post,h1,h2=>by
  show s::(if occ.getLsbD s then [] else seen occ (pre++n::post))=s::(pre++[n])
  rw [h1 s (by simp),ua (fun t ht=>h1 t (by simp [ht])) h2]
  rfl
theorem Aj (occ:BitVec 64):∀ l:List Nat,(∀ s ∈ l,occ.getLsbD s=false)∨∃ pre n post,l=pre++n::post∧(∀ s ∈ pre,occ.getLsbD s=false)∧occ.getLsbD n=true
 | []=>.inl fun _ h=>by cases h
 | s::l=>by
  cases hs:occ.getLsbD s with
  | true=>exact .inr ⟨[],s,l,rfl,(fun _ h=>by cases h),hs⟩
  | false =>
   rcases Aj occ l with h | ⟨pre,n,post,rfl,h1,h2⟩
   ·exact .inl fun t ht=>by
     simp only [List.mem_cons] at ht
     rcases ht with rfl | ht
     ·exact hs
     ·exact h t ht
   ·exact .inr ⟨s::pre,n,post,rfl,fun t ht=>by
     simp only [List.mem_cons] at ht
     rcases ht with rfl | ht
     ·exact hs
     ·exact h1 t ht,h2⟩
theorem ug {d:Nat}:∀ {pre:List Nat} {n:Nat} {post:List Nat},uw d (pre++n::post)=true→jc n d=post∧n < 64∧(∀ s ∈ pre,s < 64)∧∀ s ∈ post,s < 64
 | [],n,post,h=>by
  have all:∀ l,uw d l=true→∀ s ∈ l,s < 64:=by
   intro l
   induction l with
   | nil=>intro _ s hs; cases hs
   | cons a l ih =>
    intro h s hs
    simp only [uw,Bool.and_eq_true,decide_eq_true_eq] at h
    simp only [List.mem_cons] at hs
    rcases hs with rfl | hs
    ·exact h.1.1
    ·exact ih h.2 s hs
  simp only [List.nil_append,uw,Bool.and_eq_true,decide_eq_true_eq,beq_iff_eq] at h
  exact ⟨h.1.2,h.1.1,(fun s hs=>by cases hs),all post h.2⟩
 | a::pre,n,post,h=>by
  simp only [List.cons_append,uw,Bool.and_eq_true,decide_eq_true_eq] at h
  obtain ⟨h1,h2,h3,h4⟩:=ug h.2
  exact ⟨h1,h2,fun s hs=>by
   simp only [List.mem_cons] at hs
   rcases hs with rfl | hs
   ·exact h.1.1
   ·exact h3 s hs,h4⟩
theorem vf {d:Nat}:∀ {pre:List Nat} {n:Nat} {post:List Nat},od d (pre++n::post)=true→(∀ s ∈ pre,if up d then s < n else n < s)∧(∀ s ∈ post,if up d then n < s else s < n)∧(∀ s ∈ pre,s ∉ post)∧n ∉ post
 | [],n,post,h=>by
  simp only [List.nil_append,od,Bool.and_eq_true,List.all_eq_true] at h
  have h1:∀ s ∈ post,if up d then n < s else s < n:=fun s hs=>by
   have:=h.1 s hs
   split <;> simp_all
  refine ⟨(fun s hs=>by cases hs),h1,(fun s hs=>by cases hs),fun hn => ?_⟩
  have:=h1 n hn
  split at this <;> omega
 | a::pre,n,post,h=>by
  simp only [List.cons_append,od,Bool.and_eq_true,List.all_eq_true] at h
  obtain ⟨h1,h2,h3,h4⟩:=vf h.2
  have ha:∀ t ∈ pre++n::post,if up d then a < t else t < a:=fun t ht=>by
   have:=h.1 t ht
   split <;> simp_all
  refine ⟨fun s hs => ?_,h2,fun s hs => ?_,h4⟩
  ·simp only [List.mem_cons] at hs
   rcases hs with rfl | hs
   ·have:=ha n (by simp)
    exact this
   ·exact h1 s hs
  ·simp only [List.mem_cons] at hs
   rcases hs with rfl | hs
   ·intro hp
    have:=ha s (by simp [hp])
    split at this <;> omega
   ·exact h3 s hs
theorem FU {a d:Nat} (ha:a < 64) (hd:d < 8) (occ:BitVec 64) {t:Nat} (ht:t < 64):(jh a d occ).getLsbD t=decide (t ∈ seen occ (jc a d)):=by
 obtain ⟨e1,e2,e3⟩:=wu ⟨a,ha⟩ ⟨d,hd⟩
 simp only at e1 e2 e3
 unfold jh
 rw [e1]
 generalize hl:jc a d=l at e2 e3 ⊢
 rcases Aj occ l with h | ⟨pre,n,post,rfl,h1,h2⟩
 ·have hz:eW l&&&occ=0#64:=by
   apply BitVec.eq_of_getLsbD_eq
   intro i hi
   rw [BitVec.getLsbD_and,fo l i hi]
   by_cases hm:i ∈ l
   ·rw [h i hm]; simp
   ·simp [hm]
  rw [hz,show ((0#64:BitVec 64)==0#64)=true from rfl,cond_true,zW h,fo l t ht]
 ·obtain ⟨t1,t2,t3,t4⟩:=ug e2
  obtain ⟨s1,s2,s3,s4⟩:=vf e3
  generalize hL:pre++n::post=L at *
  have memL:∀ i,i ∈ L ↔ (i ∈ pre∨i=n∨i ∈ post):=fun i=>by rw [← hL]; simp
  have bit:∀ i,i < 64→(eW L&&&occ).getLsbD i=(decide (i ∈ L)&&occ.getLsbD i):=fun i hi=>by rw [BitVec.getLsbD_and,fo L i hi]
  have bn:(eW L&&&occ).getLsbD n=true:=by rw [bit n t2,h2]; simp [memL]
  have hnz:(eW L&&&occ==0#64)=false:=by
   rw [beq_eq_false_iff_ne]
   intro e
   rw [e] at bn
   simp at bn
  have fin:(eW L &&& ~~~iL (n:Int) d).getLsbD t=decide (t ∈ seen occ L):=by
   obtain ⟨f1,_⟩:=wu ⟨n,t2⟩ ⟨d,hd⟩
   simp only at f1
   rw [f1,t1,BitVec.getLsbD_and,BitVec.getLsbD_not,fo L t ht,fo post t ht,← hL,ua h1 h2]
   simp only [ht,decide_true,Bool.true_and,List.mem_append,List.mem_cons,List.not_mem_nil,or_false]
   by_cases p1:t ∈ pre
   ·have:=s3 t p1
    simp [p1,this]
   ·by_cases p2:t=n
    ·subst p2; simp [s4]
    ·by_cases p3:t ∈ post <;> simp [p1,p2,p3]
  rw [hnz,cond_false]
  by_cases hu:up d=true
  ·have low:pY (eW L&&&occ)=n:=sT t2 bn fun i hi=>by
    rw [bit i (by omega)]
    by_cases hm:i ∈ L
    ·rcases (memL i).1 hm with hm | rfl | hm
     ·rw [h1 i hm]; simp
     ·omega
     ·have:=s2 i hm
      rw [if_pos hu] at this
      omega
    ·simp [hm]
   rw [low]
   have hdir:d=0∨d=1∨d=2∨d=7:=by
    unfold up at hu
    simp only [Bool.or_eq_true,beq_iff_eq] at hu
    omega
   refine au (P:=fun x:BitVec 64=>x.getLsbD t=_) (fun x1=>au (P:=fun x:BitVec 64=>x.getLsbD t=_) (fun x2 => ?_) fun _=>fin) fun _=>fin
   have x1:(d:Int) ≥ 3:=by simpa using x1
   have x2:(d:Int)≤6:=by simpa using x2
   omega
  ·have high:BK (eW L&&&occ)=n:=FA t2 bn fun i hi h64=>by
    rw [bit i h64]
    by_cases hm:i ∈ L
    ·rcases (memL i).1 hm with hm | rfl | hm
     ·rw [h1 i hm]; simp
     ·omega
     ·have:=s2 i hm
      rw [if_neg hu] at this
      omega
    ·simp [hm]
   rw [high]
   have hdir:3≤d∧d≤6:=by
    unfold up at hu
    simp only [Bool.or_eq_true,beq_iff_eq] at hu
    omega
   rw [show decide ((d:Int) ≥ 3)=true by simp; omega,show decide ((d:Int)≤6)=true by simp; omega]
   exact fin
def il (d:Nat):Int:=[8,9,1,-7,-8,-9,-1,7].getD d 0
def xZ (d:Nat):Nat→List Nat→Bool
 | _,[]=>true
 | a,s::l=>decide ((s:Int)=a+il d)&&decide (s < 64)&&xZ d s l
def O9 (a b:Int):Int:=wr .i64 (wr .i64 (8 * mH (wr .i64 (wr .i64 (b.tdiv 8) - wr .i64 (a.tdiv 8))))+mH (wr .i64 (b.tmod 8 - a.tmod 8)))
theorem Fv:∀ (a:Fin 64) (d:Fin 8),(xZ d.val a.val (jc a.val d.val)&&(jc a.val d.val).all fun b=>decide (O9 a.val b=il d.val))=true:=by decide +kernel
theorem Ql (p:Pos) {d:Nat} (hd:d < 8) {c:Nat}:∀ (l:List Nat) (a:Nat),xZ d a l=true→a < 64→c ∈ l→l.length≤64→∃ r,cP (fun x=>bif iG c (il d) p x then jV c (il d) p x else .bad) (l.length+1) (a+il d)=some r∧(cq r=false ↔ ∀ pre post,l=pre++c::post→c ∉ pre→∀ s ∈ pre,bA (p.ae.getD s 0)=0)
 | [],_,_,_,h,_=>by cases h
 | s::l,a,h,ha,hc,hn=>by
  simp only [xZ,Bool.and_eq_true,decide_eq_true_eq] at h
  obtain ⟨⟨h1,h2⟩,h3⟩:=h
  rw [← h1]
  have hsc:(scale 1 (s:Int)).toNat=s:=by rw [fA]; omega
  have hoff : -9≤il d∧il d≤9:=by
   have:∀ d:Fin 8,-9≤il d.val∧il d.val≤9:=by decide
   exact this ⟨d,hd⟩
  by_cases e:s=c
  ·subst e
   refine ⟨.inr ((s:Int),false),?_,?_⟩
   ·rw [cP]
    unfold iG jV
    simp
   ·refine ⟨fun _ pre post hl hp s' hs' => ?_,fun _=>rfl⟩
    cases pre with
    | nil=>cases hs'
    | cons x pre =>
     simp only [List.cons_append,List.cons.injEq] at hl
     exact absurd (by rw [hl.1]; simp) hp
  ·have hcl:c ∈ l:=by
    simp only [List.mem_cons] at hc
    rcases hc with hc | hc
    ·exact absurd hc.symm e
    ·exact hc
   have hne:((s:Int) != (c:Int))=true:=by simp; omega
   by_cases ho:bA (p.ae.getD s 0)=0
   ·obtain ⟨r,q1,q2⟩:=Ql p hd l s h3 h2 hcl (by simp at hn; omega)
    refine ⟨r,?_,?_⟩
    ·rw [List.length_cons,cP]
     have:(bif iG c (il d) p (s:Int) then jV c (il d) p (s:Int) else .bad)=.go ((s:Int)+il d):=by
      unfold iG jV
      rw [hne,hsc,ho,aI (n:=(s:Int)+il d) (by omega) (by omega),show (decide (0≤(s:Int))&&decide ((s:Int) < 64)&&true)=true by simp; omega]
      rfl
     rw [this]
     exact q1
    ·rw [q2]
     constructor
     ·intro hq pre post hl hp t ht
      cases pre with
      | nil=>cases ht
      | cons x pre =>
       simp only [List.cons_append,List.cons.injEq] at hl
       obtain ⟨rfl,hl⟩:=hl
       simp only [List.mem_cons] at ht
       rcases ht with rfl | ht
       ·exact ho
       ·exact hq pre post hl (fun hm=>hp (by simp [hm])) t ht
     ·intro hq pre post hl hp t ht
      refine hq (s::pre) post (by rw [hl]; rfl) (fun hm => ?_) t (by simp [ht])
      simp only [List.mem_cons] at hm
      rcases hm with hm | hm
      ·exact e hm.symm
      ·exact hp hm
   ·refine ⟨.inl (),?_,?_⟩
    ·rw [List.length_cons,cP]
     have:(bif iG c (il d) p (s:Int) then jV c (il d) p (s:Int) else .bad)=.out (.inl ()):=by
      unfold iG jV
      rw [hne,hsc,show (bA (p.ae.getD s 0) != 0)=true by simpa using ho,show (decide (0≤(s:Int))&&decide ((s:Int) < 64)&&true)=true by simp; omega]
      rfl
     rw [this]
    ·constructor
     ·intro h; cases h
     ·intro hq
      obtain ⟨pre,post,hl,hp⟩:∃ pre post,s::l=pre++c::post∧c ∉ pre:=by
       have:∀ l:List Nat,c ∈ l→∃ pre post,l=pre++c::post∧c ∉ pre:=by
        intro l
        induction l with
        | nil=>intro h; cases h
        | cons y l ih =>
         intro h
         by_cases ey:y=c
         ·exact ⟨[],l,by rw [ey]; rfl,by simp⟩
         ·simp only [List.mem_cons] at h
          rcases h with h | h
          ·exact absurd h.symm ey
          ·obtain ⟨pre,post,e1,e2⟩:=ih h
           exact ⟨y::pre,post,by rw [e1]; rfl,by simp [e2]; omega⟩
       exact this _ hc
      have hs:s ∈ pre:=by
       cases pre with
       | nil =>
        simp only [List.nil_append,List.cons.injEq] at hl
        exact absurd hl.1 e
       | cons x pre =>
        simp only [List.cons_append,List.cons.injEq] at hl
        rw [hl.1]; simp
      exact absurd (hq pre post hl hp s hs) ho
theorem jw {X R:Type} {st:X→aF X R}:∀ (n m:Nat) (x:X) (r:R),n≤m→cP st n x=some r→cP st m x=some r
 | 0,_,_,_,_,h=>by cases h
 | n+1,0,_,_,h,_=>by omega
 | n+1,m+1,x,r,hm,h=>by
  rw [cP] at h ⊢
  cases hs:st x with
  | go y=>rw [hs] at h; exact jw n m y r (by omega) h
  | out q=>rw [hs] at h; exact h
  | bad=>rw [hs] at h; cases h
theorem yU {occ:BitVec 64} {c:Nat}:∀ {l:List Nat},c ∈ seen occ l→c ∈ l
 | [],h=>h
 | s::l,h=>by
  simp only [seen,List.mem_cons] at h
  rcases h with rfl | h
  ·simp
  ·cases ho:occ.getLsbD s with
   | true=>rw [ho] at h; cases h
   | false=>rw [ho] at h; exact List.mem_cons_of_mem _ (yU h)
theorem rE {occ:BitVec 64} {c:Nat}:∀ {l:List Nat},c ∈ l→(c ∈ seen occ l ↔ ∀ pre post,l=pre++c::post→c ∉ pre→∀ s ∈ pre,occ.getLsbD s=false)
 | [],h=>by cases h
 | s::l,h=>by
  by_cases e:s=c
  ·subst e
   refine ⟨fun _ pre post hl hp t ht => ?_,fun _=>by simp [seen]⟩
   cases pre with
   | nil=>cases ht
   | cons x pre =>
    simp only [List.cons_append,List.cons.injEq] at hl
    exact absurd (by rw [hl.1]; simp) hp
  ·have hcl:c ∈ l:=by
    simp only [List.mem_cons] at h
    rcases h with h | h
    ·exact absurd h.symm e
    ·exact h
   have ih:=rE (occ:=occ) hcl
   have hx:c ∈ seen occ (s::l) ↔ occ.getLsbD s=false∧c ∈ seen occ l:=by
    simp only [seen,List.mem_cons]
    cases occ.getLsbD s with
    | true=>simp; omega
    | false=>simp; omega
   rw [hx,ih]
   constructor
   ·rintro ⟨h1,h2⟩ pre post hl hp t ht
    cases pre with
    | nil=>cases ht
    | cons x pre =>
     simp only [List.cons_append,List.cons.injEq] at hl
     obtain ⟨rfl,hl⟩:=hl
     simp only [List.mem_cons] at ht
     rcases ht with rfl | ht
     ·exact h1
     ·exact h2 pre post hl (fun hm=>hp (by simp [hm])) t ht
   ·intro hq
    have ex:∀ l:List Nat,c ∈ l→∃ pre post,l=pre++c::post∧c ∉ pre:=by
     intro l
     induction l with
     | nil=>intro h; cases h
     | cons y l ih =>
      intro h
      by_cases ey:y=c
      ·exact ⟨[],l,by rw [ey]; rfl,by simp⟩
      ·simp only [List.mem_cons] at h
       rcases h with h | h
       ·exact absurd h.symm ey
       ·obtain ⟨pre,post,e1,e2⟩:=ih h
        exact ⟨y::pre,post,by rw [e1]; rfl,by simp [e2]; omega⟩
    refine ⟨?_,fun pre post hl hp t ht => ?_⟩
    ·obtain ⟨pre,post,e1,e2⟩:=ex l hcl
     exact hq (s::pre) post (by rw [e1]; rfl) (by simp [e2]; omega) s (by simp)
    ·exact hq (s::pre) post (by rw [hl]; rfl) (by simp [hp]; omega) t (by simp [ht])
theorem mf (p:Pos) {occ:BitVec 64} (hocc:∀ s,s < 64→(occ.getLsbD s=false ↔ bA (p.ae.getD s 0)=0)) {a d c:Nat} (ha:a < 64) (hd:d < 8) (hc:c ∈ jc a d):lI p a c=true∧cU p a c=decide (c ∈ seen occ (jc a d)):=by
 have f1:=Fv ⟨a,ha⟩ ⟨d,hd⟩
 simp only [Bool.and_eq_true,List.all_eq_true,decide_eq_true_eq] at f1
 obtain ⟨f1,f2⟩:=f1
 obtain ⟨_,f3,_⟩:=wu ⟨a,ha⟩ ⟨d,hd⟩
 simp only at f3
 have hstep:=f2 c hc
 unfold O9 at hstep
 have hlen:(jc a d).length≤8:=by
  have:∀ n a,(Ij n a d).length≤n:=by
   intro n
   induction n with
   | zero=>intro a; simp [Ij]
   | succ n ih =>
    intro a
    unfold Ij
    cases nxt a d with
    | none=>simp
    | some s=>simpa using ih s
  exact this 8 a
 have lt64:∀ s ∈ jc a d,s < 64:=by
  intro s hs
  obtain ⟨pre,post,e⟩:=List.append_of_mem hs
  rw [e] at f3
  exact (ug f3).2.1
 obtain ⟨r,q1,q2⟩:=Ql p hd (jc a d) a f1 ha hc (by omega)
 have hoff : -9≤il d∧il d≤9:=by
  have:∀ d:Fin 8,-9≤il d.val∧il d.val≤9:=by decide
  exact this ⟨d,hd⟩
 have q3:=jw _ many _ _ (by unfold many; omega) q1
 have hl:mw c (il d) p (a+il d)=some r:=q3
 have hres:cq r=!decide (c ∈ seen occ (jc a d)):=by
  have key:cq r=false ↔ c ∈ seen occ (jc a d):=by
   rw [q2,rE hc]
   constructor
   ·intro h pre post e hp s hs
    exact (hocc s (lt64 s (by rw [e]; simp [hs]))).2 (h pre post e hp s hs)
   ·intro h pre post e hp s hs
    exact (hocc s (lt64 s (by rw [e]; simp [hs]))).1 (h pre post e hp s hs)
  cases hb:cq r with
  | false=>rw [decide_eq_true (key.1 hb)]; rfl
  | true =>
   rw [decide_eq_false (fun h=>by rw [key.2 h] at hb; cases hb)]; rfl
 constructor
 ·unfold lI
  rw [hstep,aI (n:=(a:Int)+il d) (by omega) (by omega),show (Pos.mk p.variant p.ae p.ab p.af p.aa p.ai p.ah p.ag p.half p.full)=p from rfl,hl]
  cases hb:cq ((some r).getD default) <;> rfl
 ·unfold cU
  rw [hstep,aI (n:=(a:Int)+il d) (by omega) (by omega),show (Pos.mk p.variant p.ae p.ab p.af p.aa p.ai p.ah p.ag p.half p.full)=p from rfl,hl,Option.getD_some,hres]
  cases decide (c ∈ seen occ (jc a d)) <;> rfl
def yc (b c:Int):Int:=wr IntKind.i64 (wr IntKind.i64 (c.tdiv 8) - wr IntKind.i64 (b.tdiv 8))
def uA (b c:Int):Int:=wr IntKind.i64 (c.tmod 8 - b.tmod 8)
def cJ (k col b c:Int) (cl:Bool):Bool:=(bif b8 (yc b c)==b8 (uA b c) then (bif k==1 then (bif col==0 then (bif yc b c==1 then (b8 (uA b c)==1) else (false)) else (bif yc b c == -1 then (b8 (uA b c)==1) else (false))) else (bif k==2 then (bif b8 (yc b c)==1 then (bif b8 (uA b c)==2 then (true) else (bif b8 (yc b c)==2 then (b8 (uA b c)==1) else (false))) else (bif b8 (yc b c)==2 then (b8 (uA b c)==1) else (false))) else (bif k==6 then (iu b c) else (bif k==4 then (bif bI BinOp.neq ((yc b c==0)==(b8 (uA b c)==0)) then (cl) else (false)) else (bif k==3 then (bif decide (b8 (uA b c) > 0) then (cl) else (false)) else (bif k==5 then (bif bI BinOp.neq ((yc b c==0)==(b8 (uA b c)==0)) then (cl) else (bif decide (b8 (uA b c) > 0) then (cl) else (false))) else (false))))))) else (bif k==1 then (bif col==0 then (bif yc b c==1 then (b8 (uA b c)==1) else (false)) else (bif yc b c == -1 then (b8 (uA b c)==1) else (false))) else (bif k==2 then (bif b8 (yc b c)==1 then (bif b8 (uA b c)==2 then (true) else (bif b8 (yc b c)==2 then (b8 (uA b c)==1) else (false))) else (bif b8 (yc b c)==2 then (b8 (uA b c)==1) else (false))) else (bif k==6 then (iu b c) else (bif k==4 then (bif bI BinOp.neq ((yc b c==0)==(b8 (uA b c)==0)) then (cl) else (false)) else (bif k==3 then (false) else (bif k==5 then (bif bI BinOp.neq ((yc b c==0)==(b8 (uA b c)==0)) then (cl) else (false)) else (false))))))))
theorem qT (p:Pos) (b c:Int):np p b c=cJ (bA (p.ae.getD (scale 1 b).toNat 0)) (eY (p.ae.getD (scale 1 b).toNat 0)) b c (cU p b c):=by kernel_rfl
def kI (a b:Nat):Bool:=decide (b ∈ jc a 0) || decide (b ∈ jc a 2) || decide (b ∈ jc a 4) || decide (b ∈ jc a 6)
def kG (a b:Nat):Bool:=decide (b ∈ jc a 1) || decide (b ∈ jc a 3) || decide (b ∈ jc a 5) || decide (b ∈ jc a 7)
theorem nI:∀ a b:Fin 64,cJ 2 0 a.val b.val false=(pO a.val).getLsbD b.val∧cJ 6 0 a.val b.val false=(cV a.val).getLsbD b.val ∧
  cJ 4 0 a.val b.val true=kI a.val b.val∧cJ 4 0 a.val b.val false=false ∧
  cJ 3 0 a.val b.val true=kG a.val b.val∧cJ 3 0 a.val b.val false=false ∧
  cJ 5 0 a.val b.val true=(kI a.val b.val || kG a.val b.val)∧cJ 5 0 a.val b.val false=false:=by decide +kernel
theorem jB {k col a b:Int} {cl:Bool} (h1:(k==1)=false):cJ k col a b cl=cJ k 0 a b cl:=by
 unfold cJ
 rw [h1]
 rfl
noncomputable section
variable {p:Pos} {occ:BitVec 64} (hocc:∀ s,s < 64→(occ.getLsbD s=false ↔ bA (p.ae.getD s 0)=0)) {a b:Nat} (ha:a < 64) (hb:b < 64)
include hocc ha hb
theorem iP {d:Nat} (hd:d < 8):(jh a d occ).getLsbD b=(decide (b ∈ jc a d)&&cU p a b):=by
 rw [FU ha hd occ hb]
 by_cases h:b ∈ jc a d
 ·rw [(mf p hocc ha hd h).2]
  simp [h]
 ·have:b ∉ seen occ (jc a d):=fun hs=>h (yU hs)
  simp [h,this]
theorem tM:(qJ a occ).getLsbD b=(kI a b&&cU p a b):=by
 unfold qJ kI
 have h0:=iP hocc ha hb (d:=0) (by decide)
 have h2:=iP hocc ha hb (d:=2) (by decide)
 have h4:=iP hocc ha hb (d:=4) (by decide)
 have h6:=iP hocc ha hb (d:=6) (by decide)
 rw [BitVec.getLsbD_or,BitVec.getLsbD_or,BitVec.getLsbD_or,BitVec.getLsbD_or]
 rw [show (jh a 0 occ).getLsbD b=_ from h0,show (jh a 2 occ).getLsbD b=_ from h2,show (jh a 4 occ).getLsbD b=_ from h4,show (jh a 6 occ).getLsbD b=_ from h6]
 simp only [BitVec.getLsbD_zero,Bool.false_or]
 cases decide (b ∈ jc a 0) <;> cases decide (b ∈ jc a 2) <;> cases decide (b ∈ jc a 4) <;> cases decide (b ∈ jc a 6) <;> cases cU p a b <;> rfl
theorem nn:(qF a occ).getLsbD b=(kG a b&&cU p a b):=by
 unfold qF kG
 have h0:=iP hocc ha hb (d:=1) (by decide)
 have h2:=iP hocc ha hb (d:=3) (by decide)
 have h4:=iP hocc ha hb (d:=5) (by decide)
 have h6:=iP hocc ha hb (d:=7) (by decide)
 rw [BitVec.getLsbD_or,BitVec.getLsbD_or,BitVec.getLsbD_or,BitVec.getLsbD_or]
 rw [show (jh a 1 occ).getLsbD b=_ from h0,show (jh a 3 occ).getLsbD b=_ from h2,show (jh a 5 occ).getLsbD b=_ from h4,show (jh a 7 occ).getLsbD b=_ from h6]
 simp only [BitVec.getLsbD_zero,Bool.false_or]
 cases decide (b ∈ jc a 1) <;> cases decide (b ∈ jc a 3) <;> cases decide (b ∈ jc a 5) <;> cases decide (b ∈ jc a 7) <;> cases cU p a b <;> rfl
theorem vj:(tR a occ).getLsbD b=((kI a b || kG a b)&&cU p a b):=by
 unfold tR
 rw [BitVec.getLsbD_or,tM hocc ha hb,nn hocc ha hb]
 cases kI a b <;> cases kG a b <;> cases cU p a b <;> rfl
def DO (k:Int) (a:Nat) (occ:BitVec 64):BitVec 64:=bif k==2 then pO a else bif k==3 then qF a occ else bif k==4 then qJ a occ else bif k==5 then tR a occ else cV a
theorem Kt (hk:2≤bA (p.ae.getD a 0)∧bA (p.ae.getD a 0)≤6):np p a b=(DO (bA (p.ae.getD a 0)) a occ).getLsbD b:=by
 obtain ⟨f2,f6,f4,f4',f3,f3',f5,f5'⟩:=nI ⟨a,ha⟩ ⟨b,hb⟩
 simp only at f2 f6 f4 f4' f3 f3' f5 f5'
 have hr:=tM hocc ha hb
 have hbi:=nn hocc ha hb
 have hqu:=vj hocc ha hb
 rw [qT,show (scale 1 (a:Int)).toNat=a by unfold scale; simp]
 generalize eY (p.ae.getD a 0)=col
 generalize bA (p.ae.getD a 0)=k at hk
 rw [jB (by simp; omega)]
 have hk':k=2∨k=3∨k=4∨k=5∨k=6:=by omega
 rcases hk' with rfl | rfl | rfl | rfl | rfl
 ·show cJ 2 0 a b (cU p a b)=(pO a).getLsbD b
  rw [← f2]
  rfl
 ·show cJ 3 0 a b (cU p a b)=(qF a occ).getLsbD b
  rw [hbi]
  cases cU p a b
  ·rw [f3',Bool.and_false]
  ·rw [f3,Bool.and_true]
 ·show cJ 4 0 a b (cU p a b)=(qJ a occ).getLsbD b
  rw [hr]
  cases cU p a b
  ·rw [f4',Bool.and_false]
  ·rw [f4,Bool.and_true]
 ·show cJ 5 0 a b (cU p a b)=(tR a occ).getLsbD b
  rw [hqu]
  cases cU p a b
  ·rw [f5',Bool.and_false]
  ·rw [f5,Bool.and_true]
 ·show cJ 6 0 a b (cU p a b)=(cV a).getLsbD b
  rw [← f6]
  rfl
end
end Kz
end
noncomputable section
namespace Kz
open Go Go.RowKit
set_option maxRecDepth 100000
set_option maxHeartbeats 1000000
set_option linter.unusedSectionVars false
theorem MK:∀ v:Fin 256,bk v.val=bA v.val∧(dc 0 0 v.val=(!(bA v.val==0)&&eY v.val==0))∧(dc 1 0 v.val=(!(bA v.val==0)&&eY v.val==1))∧((dc 0 0 v.val || dc 1 0 v.val)=!(bA v.val==0))∧(bA v.val=0∨bA v.val=1∨(2≤bA v.val∧bA v.val≤6)):=by decide +kernel
theorem qD {v:Int} (h0:0≤v) (h1:v≤255):bk v=bA v∧(dc 0 0 v=(!(bA v==0)&&eY v==0))∧(dc 1 0 v=(!(bA v==0)&&eY v==1))∧((dc 0 0 v || dc 1 0 v)=!(bA v==0))∧(bA v=0∨bA v=1∨(2≤bA v∧bA v≤6)):=by
 obtain ⟨n,rfl⟩:=Int.eq_ofNat_of_zero_le h0
 exact MK ⟨n,by omega⟩
noncomputable section
variable {p:Pos} (hp:aG p) (ht:p.aa=0∨p.aa=1)
include hp ht
theorem kh {c:Int} (hc:c=0∨c=1) {i:Nat} (hi:i < 64):GI p i c=(aR p c 0).getLsbD i:=by
 obtain ⟨b0,b1⟩:=ei hp i
 obtain ⟨_,m0,m1,_⟩:=qD b0 b1
 rw [cn _ _ _ hi]
 unfold GI zZ
 rw [show (Pos.mk p.variant p.ae p.ab p.af p.aa p.ai p.ah p.ag p.half p.full)=p from rfl,show (scale 1 (i:Int)).toNat=i by unfold scale; simp]
 rcases hc with rfl | rfl
 ·rw [m0]; cases bA (p.ae.getD i 0)==0 <;> rfl
 ·rw [m1]; cases bA (p.ae.getD i 0)==0 <;> rfl
theorem Ik:gO p=aR p (1 - p.aa) 0:=by
 unfold gO
 rw [oZ (by omega) (by omega)]
theorem qZ {s:Nat} (hs:s < 64):(own p|||gO p).getLsbD s=false ↔ bA (p.ae.getD s 0)=0:=by
 obtain ⟨b0,b1⟩:=ei hp s
 obtain ⟨_,_,_,m,_⟩:=qD b0 b1
 rw [BitVec.getLsbD_or,Ik hp ht]
 unfold own
 rw [cn _ _ _ hs,cn _ _ _ hs]
 have e:(dc p.aa 0 (p.ae.getD s 0) || dc (1 - p.aa) 0 (p.ae.getD s 0))=!(bA (p.ae.getD s 0)==0):=by
  rw [← m]
  rcases ht with h | h <;> rw [h]
  ·rfl
  ·exact Bool.or_comm _ _
 rw [e]
 simp
theorem xP {s:Nat} (hs:s < 64):zZ p s=!(own p|||gO p).getLsbD s:=by
 have h:=qZ hp ht hs
 unfold zZ
 rw [show (scale 1 (s:Int)).toNat=s by unfold scale; simp]
 cases hb:(own p|||gO p).getLsbD s with
 | false=>rw [h.1 hb]; rfl
 | true =>
  have:bA (p.ae.getD s 0)≠0:=fun e=>by rw [h.2 e] at hb; cases hb
  simpa using this
theorem My {f t:Nat} (hf:f < 64) (h64:t < 64) (hown:(own p).getLsbD f=true) (hk:bA (p.ae.getD f 0)≠1):mE p f t=(gG (p,own p,gO p) f).getLsbD t:=by
 obtain ⟨b0,b1⟩:=ei hp f
 obtain ⟨m91,_,_,mm,mk⟩:=qD b0 b1
 have e1:=kh hp ht ht hf
 have e2:=kh hp ht ht h64
 have ho:aR p p.aa 0=own p:=rfl
 rw [ho] at e1 e2
 rw [hown] at e1
 have hocc:=fun s hs=>qZ hp ht (s:=s) hs
 have hne:bA (p.ae.getD f 0)≠0:=fun e=>by
  have:=(qZ hp ht hf).2 e
  rw [BitVec.getLsbD_or,hown] at this
  cases this
 have h26:2≤bA (p.ae.getD f 0)∧bA (p.ae.getD f 0)≤6:=by omega
 have hit:=Kt (p:=p) (occ:=own p|||gO p) hocc hf h64 h26
 have emp:=xP hp ht h64
 unfold mE gG
 dsimp only
 rw [e1,e2,show (scale 1 (f:Int)).toNat=f by unfold scale; simp,m91,hit,emp]
 unfold DO
 have hft:((f:Int)==(t:Int))=decide (f=t):=by
  rw [Bool.eq_iff_iff]; simp; omega
 rw [hft]
 generalize bA (p.ae.getD f 0)=k at *
 have hk':k=2∨k=3∨k=4∨k=5∨k=6:=by omega
 by_cases hts:f=t
 ·subst hts
  rw [decide_eq_true rfl]
  have hz:∀ X:BitVec 64,(X &&& ~~~own p).getLsbD f=false:=fun X=>by
   rw [BitVec.getLsbD_and,BitVec.getLsbD_not,hown]; simp
  rcases hk' with rfl | rfl | rfl | rfl | rfl
  ·exact (hz _).symm
  ·exact (hz _).symm
  ·exact (hz _).symm
  ·exact (hz _).symm
  ·show false=(bif p.variant==3 then _ else _:BitVec 64).getLsbD f
   cases p.variant==3
   ·exact (hz _).symm
   ·exact (hz _).symm
 ·rw [decide_eq_false hts]
  have hz:∀ X:BitVec 64,(X &&& ~~~own p).getLsbD t=(!(own p).getLsbD t&&X.getLsbD t):=fun X=>by
   rw [BitVec.getLsbD_and,BitVec.getLsbD_not,Bool.and_comm]; simp [h64]
  rcases hk' with rfl | rfl | rfl | rfl | rfl
  ·show (bif (own p).getLsbD t then false else (pO f).getLsbD t)=(pO f &&& ~~~own p).getLsbD t
   rw [hz]; cases (own p).getLsbD t <;> rfl
  ·show (bif (own p).getLsbD t then false else (qF f (own p|||gO p)).getLsbD t)=(qF f (own p|||gO p) &&& ~~~own p).getLsbD t
   rw [hz]; cases (own p).getLsbD t <;> rfl
  ·show (bif (own p).getLsbD t then false else (qJ f (own p|||gO p)).getLsbD t)=(qJ f (own p|||gO p) &&& ~~~own p).getLsbD t
   rw [hz]; cases (own p).getLsbD t <;> rfl
  ·show (bif (own p).getLsbD t then false else (tR f (own p|||gO p)).getLsbD t)=(tR f (own p|||gO p) &&& ~~~own p).getLsbD t
   rw [hz]; cases (own p).getLsbD t <;> rfl
  ·show (bif (own p).getLsbD t then false else (bif (cV f).getLsbD t then (bif p.variant != 3 then true else !(own p|||gO p).getLsbD t) else false))=(bif p.variant==3 then cV f &&& ~~~gO p &&& ~~~own p else cV f &&& ~~~own p).getLsbD t
   rw [BitVec.getLsbD_or]
   by_cases hv:p.variant=3
   ·rw [show (p.variant != 3)=false by simp [hv],show (p.variant==3)=true by simp [hv]]
    show _=(cV f &&& ~~~gO p &&& ~~~own p).getLsbD t
    rw [hz,BitVec.getLsbD_and,BitVec.getLsbD_not]
    simp only [h64,decide_true,Bool.true_and,cond_false]
    cases (own p).getLsbD t <;> cases (gO p).getLsbD t <;> cases (cV f).getLsbD t <;> rfl
   ·rw [show (p.variant != 3)=true by simpa using hv,show (p.variant==3)=false by simpa using hv]
    show _=(cV f &&& ~~~own p).getLsbD t
    rw [hz]
    cases (own p).getLsbD t <;> cases (cV f).getLsbD t <;> rfl
end
theorem zG (x:BitVec 64) {k:Nat} (hk:k < 64):(x >>> k&&&1#64==1#64)=x.getLsbD k:=by
 have h:(x >>> k&&&1#64).toNat=(x.getLsbD k).toNat:=by
  rw [BitVec.toNat_and,BitVec.toNat_ushiftRight,Nat.shiftRight_eq_div_pow,show (1#64).toNat=2 ^ 1 - 1 from rfl,Nat.and_two_pow_sub_one_eq_mod,BitVec.getLsbD,Nat.testBit_eq_decide_div_mod_eq]
  have:=Nat.mod_two_eq_zero_or_one (x.toNat / 2 ^ k)
  rcases this with h | h
  ·rw [show (2:Nat) ^ 1=2 from rfl,h]; rfl
  ·rw [show (2:Nat) ^ 1=2 from rfl,h]; rfl
 cases hb:x.getLsbD k with
 | true =>
  rw [hb] at h
  have:x >>> k&&&1#64=1#64:=BitVec.eq_of_toNat_eq h
  rw [this]; rfl
 | false =>
  rw [hb] at h
  have:x >>> k&&&1#64=0#64:=BitVec.eq_of_toNat_eq h
  rw [this]; rfl
theorem Ld:∀ (c:Fin 2) (f t:Fin 64),cJ 1 c.val f.val t.val false=(cW c.val f.val).getLsbD t.val:=by decide +kernel
theorem rV:∀ (c:Fin 2) (f:Fin 64),fL c.val f.val=gW c.val f.val∧(fL c.val f.val≠7→0≤cS c.val f.val∧cS c.val f.val < 64)∧cS c.val f.val=f.val+fX c.val∧(fL c.val f.val=1∨fL c.val f.val=0→cS c.val (cS c.val f.val)=f.val+2 * fX c.val∧0≤cS c.val (cS c.val f.val)∧cS c.val (cS c.val f.val) < 64)∧(fL c.val f.val=7→cS c.val f.val < 0∨64≤cS c.val f.val)∧(fX c.val=8∨fX c.val = -8):=by decide +kernel
theorem EY:∀ (c:Fin 2) (f t:Fin 64),(cW c.val f.val).getLsbD t.val=true→(t.val:Int)≠f.val+fX c.val∧(t.val:Int)≠f.val+2 * fX c.val:=by decide +kernel
theorem Hr {n:Int} (h0:0≤n) (h1:n < 64) {t:Nat} (ht:t < 64):(1#64 <<< (BitVec.ofInt 64 n).toNat).getLsbD t=decide ((t:Int)=n):=by
 rw [fF ht,cN h0 (by omega),Bool.eq_iff_iff]
 simp
 omega
noncomputable section
variable {p:Pos} (hp:aG p) (ht:p.aa=0∨p.aa=1)
include hp ht
theorem IM {f t:Nat} (hf:f < 64) (h64:t < 64) (hown:(own p).getLsbD f=true) (hk:bA (p.ae.getD f 0)=1):mE p f t=(gG (p,own p,gO p) f).getLsbD t:=by
 obtain ⟨b0,b1⟩:=ei hp f
 obtain ⟨m91,m0,m1,_,_⟩:=qD b0 b1
 have e1:=kh hp ht ht hf
 have e2:=kh hp ht ht h64
 have ho:aR p p.aa 0=own p:=rfl
 rw [ho] at e1 e2
 rw [hown] at e1
 have hcol:eY (p.ae.getD f 0)=p.aa:=by
  have:dc p.aa 0 (p.ae.getD f 0)=true:=by
   rw [← cn p p.aa 0 hf]; exact hown
  rcases ht with h | h
  ·rw [h,m0] at this
   rw [h]
   simp only [Bool.and_eq_true,beq_iff_eq] at this
   exact this.2
  ·rw [h,m1] at this
   rw [h]
   simp only [Bool.and_eq_true,beq_iff_eq] at this
   exact this.2
 have w1:wr .u8 (1 - p.aa)=1 - p.aa:=oZ (by omega) (by omega)
 have e3:GI p t (wr .u8 (1 - p.aa))=(gO p).getLsbD t:=by
  rw [w1,kh hp ht (by omega) h64,Ik hp ht]
 have hsf:(scale 1 (f:Int)).toNat=f:=by unfold scale; simp
 have emp:=fun s hs=>xP hp ht (s:=s) hs
 obtain ⟨c,hc⟩:∃ c:Fin 2,p.aa=c.val:=by
  rcases ht with h | h
  ·exact ⟨0,h⟩
  ·exact ⟨1,h⟩
 have hat:=Ld c ⟨f,hf⟩ ⟨t,h64⟩
 obtain ⟨r1,r2,r3,r4,r5,r6⟩:=rV c ⟨f,hf⟩
 have hz:=EY c ⟨f,hf⟩ ⟨t,h64⟩
 simp only at hat r1 r2 r3 r4 r5 r6 hz
 rw [← hc] at hat r1 r2 r3 r4 r5 r6 hz
 have hA:np p f t=(cW p.aa f).getLsbD t:=by
  rw [qT,hsf,hk,hcol,← hat]
  rfl
 have p0:=hp.p0
 have p1:=hp.p1
 have wp:wr .i64 p.ah=p.ah:=aI (by omega) (by omega)
 have hP:(ph (p,own p,gO p)).getLsbD t=(p.ah==(t:Int)):=by
  unfold ph
  refine au (P:=fun x:BitVec 64=>x.getLsbD t=_) (fun h => ?_) fun h=>au (P:=fun x:BitVec 64=>x.getLsbD t=_) (fun h2 => ?_) fun h2 => ?_
  ·have h:p.ah < 0:=by simpa using h
   rw [show (p.ah==(t:Int))=false by simp; omega]; simp
  ·have h2:p.ah ≥ 64:=by simpa using h2
   rw [show (p.ah==(t:Int))=false by simp; omega]; simp
  ·have h:0≤p.ah:=by simpa using h
   have h2:p.ah < 64:=by simpa using h2
   show (1#64 <<< (BitVec.ofInt 64 p.ah).toNat).getLsbD t=_
   rw [Hr h h2 h64,Bool.eq_iff_iff]
   simp
   omega
 unfold mE gG
 dsimp only
 rw [e1,e2,hsf,m91,hk]
 show (bif (f:Int)==(t:Int) then false else bif (own p).getLsbD t then false else GD p f t)=(zh (p,own p,gO p) f &&& ~~~own p).getLsbD t
 rw [BitVec.getLsbD_and,BitVec.getLsbD_not]
 by_cases hft:f=t
 ·subst hft
  rw [hown]; simp
 ·rw [show ((f:Int)==(t:Int))=false by simp; omega,cond_false]
  cases hW:(own p).getLsbD t with
  | true=>simp
  | false =>
   simp only [cond_false,h64,decide_true,Bool.not_false,Bool.and_true]
   have hoc:(own p|||gO p).getLsbD t=(gO p).getLsbD t:=by rw [BitVec.getLsbD_or,hW,Bool.false_or]
   unfold GD zh
   dsimp only
   rw [hA,e3,wp,← r1]
   have wup:wr .i64 ((f:Int)+fX p.aa)=f+fX p.aa:=aI (by omega) (by omega)
   have wup2:wr .i64 (2 * fX p.aa)=2 * fX p.aa:=aI (by omega) (by omega)
   have wup3:wr .i64 ((f:Int)+2 * fX p.aa)=f+2 * fX p.aa:=aI (by omega) (by omega)
   rw [wup2,wup,wup3,show (Pos.mk p.variant p.ae p.ab p.af p.aa p.ai p.ah p.ag p.half p.full,own p,gO p)=(p,own p,gO p) from rfl]
   have hatt:∀ X:BitVec 64,X=cW p.aa f&&&(gO p|||ph (p,own p,gO p))→X.getLsbD t=((cW p.aa f).getLsbD t&&((gO p).getLsbD t || (p.ah==(t:Int)))):=fun X hX=>by
    rw [hX,BitVec.getLsbD_and,BitVec.getLsbD_or,hP]
   generalize hXX:cW p.aa f&&&(gO p|||ph (p,own p,gO p))=X at *
   have hatt:=hatt X rfl
   have hpass:(p.ah==(t:Int))=((p.ah:Int)==t):=rfl
   generalize (cW p.aa f).getLsbD t=A at *
   by_cases h7:fL p.aa f=7
   ·rw [h7]
    have:=r5 h7
    rw [show ((7:Int)==7)=true from rfl,cond_true,hatt,emp t h64,hoc]
    cases A
    ·rw [show ((t:Int)==(f:Int)+fX p.aa)=false by simp; omega]
     cases ((t:Int)==(f:Int)+2 * fX p.aa) <;> rfl
    ·cases (gO p).getLsbD t <;> cases (p.ah==(t:Int)) <;> rfl
   ·obtain ⟨a0,a1⟩:=r2 h7
    rw [show (fL p.aa f==7)=false by simpa using h7,cond_false,cN a0 (by omega),zG _ (by omega)]
    obtain ⟨s,hs⟩:=Int.eq_ofNat_of_zero_le a0
    have hs64:s < 64:=by omega
    rw [show (cS p.aa f).toNat=s by omega,show (f:Int)+fX p.aa=(s:Int) by omega,emp s hs64,emp t h64]
    have hb1:(1#64 <<< s).getLsbD t=((t:Int)==(s:Int)):=by
     rw [fF h64,Bool.eq_iff_iff]; simp; omega
    have hb2:(fL p.aa f=1∨fL p.aa f=0)→(1#64 <<< (BitVec.ofInt 64 (cS p.aa (cS p.aa f))).toNat).getLsbD t=((t:Int)==(f:Int)+2 * fX p.aa):=fun h=>by
     obtain ⟨c1,c2,c3⟩:=r4 h
     rw [Hr c2 c3 h64,c1,Bool.eq_iff_iff]
     simp
    generalize 1#64 <<< (BitVec.ofInt 64 (cS p.aa (cS p.aa f))).toNat=Y at hb2 ⊢
    have q1:((t:Int)==(s:Int))=true→A=false∧(own p|||gO p).getLsbD t=(own p|||gO p).getLsbD s:=fun h=>by
     have h:(t:Int)=s:=by simpa using h
     refine ⟨?_,by rw [show t=s by omega]⟩
     cases hA':A with
     | false=>rfl
     | true=>exact absurd (by omega) (hz hA').1
    have q2:((t:Int)==(f:Int)+2 * fX p.aa)=true→A=false:=fun h=>by
     have h:(t:Int)=f+2 * fX p.aa:=by simpa using h
     cases hA':A with
     | false=>rfl
     | true=>exact absurd h (hz hA').2
    generalize ((t:Int)==(s:Int))=u at *
    generalize ((t:Int)==(f:Int)+2 * fX p.aa)=u2 at *
    have rhs1:(X|||1#64 <<< s).getLsbD t=(X.getLsbD t || u):=by rw [BitVec.getLsbD_or,hb1]
    have rhs2:(fL p.aa f=1∨fL p.aa f=0)→(X|||1#64 <<< s|||Y &&& ~~~(own p|||gO p)).getLsbD t=(X.getLsbD t || u || (u2&&!(own p|||gO p).getLsbD t)):=fun h=>by
     rw [BitVec.getLsbD_or,BitVec.getLsbD_or,BitVec.getLsbD_and,BitVec.getLsbD_not,hb1,hb2 h]
     simp only [h64,decide_true,Bool.true_and]
    generalize (own p|||gO p).getLsbD t=ot at *
    generalize (own p|||gO p).getLsbD s=os at *
    generalize (gO p).getLsbD t=O at *
    generalize (p.ah==(t:Int))=P at *
    by_cases g1:fL p.aa f=1
    ·rw [show (fL p.aa f==1)=true by simpa using g1]
     simp only [cond_true]
     cases os
     ·rw [cond_false,rhs2 (.inl g1),hatt]
      revert q1 q2
      cases A <;> cases u <;> cases u2 <;> cases ot <;> cases O <;> cases P <;> simp
     ·rw [cond_true,hatt]
      revert q1 q2
      cases A <;> cases u <;> cases u2 <;> cases ot <;> cases O <;> cases P <;> simp
    ·rw [show (fL p.aa f==1)=false by simpa using g1]
     simp only [cond_false]
     by_cases g0:fL p.aa f=0
     ·rw [show (fL p.aa f==0)=true by simpa using g0]
      simp only [cond_true]
      cases hv:(p.variant==7) <;> cases htn:(p.aa==0) <;> cases os <;> simp only [cond_true,cond_false,rhs1,rhs2 (.inr g0),hatt] <;> revert q1 q2 <;> cases A <;> cases u <;> cases u2 <;> cases ot <;> cases O <;> cases P <;> simp
     ·rw [show (fL p.aa f==0)=false by simpa using g0]
      simp only [cond_false]
      cases os
      ·rw [cond_false,rhs1,hatt]
       revert q1 q2
       cases A <;> cases u <;> cases u2 <;> cases ot <;> cases O <;> cases P <;> simp
      ·rw [cond_true,hatt]
       revert q1 q2
       cases A <;> cases u <;> cases u2 <;> cases ot <;> cases O <;> cases P <;> simp
end
theorem Jc:∀ a b:Fin 64,(bI BinOp.neq ((yc a.val b.val==0)==(b8 (uA a.val b.val)==0))=true→kI a.val b.val=true)∧((b8 (yc a.val b.val)==b8 (uA a.val b.val))=true→decide (b8 (uA a.val b.val) > 0)=true→kG a.val b.val=true):=by decide +kernel
noncomputable section
variable {p:Pos} (hp:aG p) (ht:p.aa=0∨p.aa=1)
include hp ht
theorem t240 {a b:Nat} (ha:a < 64) (h:kI a b=true∨kG a b=true):lI p a b=true:=by
 have hocc:=fun s hs=>qZ hp ht (s:=s) hs
 have:∃ d,d < 8∧b ∈ jc a d:=by
  unfold kI kG at h
  simp only [Bool.or_eq_true,decide_eq_true_eq] at h
  rcases h with (((h | h) | h) | h) | (((h | h) | h) | h)
  ·exact ⟨0,by decide,h⟩
  ·exact ⟨2,by decide,h⟩
  ·exact ⟨4,by decide,h⟩
  ·exact ⟨6,by decide,h⟩
  ·exact ⟨1,by decide,h⟩
  ·exact ⟨3,by decide,h⟩
  ·exact ⟨5,by decide,h⟩
  ·exact ⟨7,by decide,h⟩
 obtain ⟨d,hd,hb⟩:=this
 exact (mf p hocc ha hd hb).1
theorem t170 {a b:Nat} (ha:a < 64) (hb:b < 64):nF p a b=true:=by
 obtain ⟨l1,l2⟩:=Jc ⟨a,ha⟩ ⟨b,hb⟩
 simp only [yc,uA] at l1 l2
 have k1:=fun h=>t240 hp ht ha (.inl (l1 h))
 have k2:=fun h h'=>t240 hp ht ha (.inr (l2 h h'))
 have ki:(decide (0≤(a:Int))&&decide ((a:Int) < Int.ofNat 64))=true:=by simp; omega
 unfold nF
 refine ao ki fun _=>aq (fun e => ?_) fun e => ?_
 all_goals repeat' (first | with_reducible rfl | exact k1 (by assumption) | exact k2 (by assumption) (by assumption) | refine ao ?_ (fun _ => ?_) | refine aq (fun _ => ?_) (fun _ => ?_))
theorem t96 {b:Nat} (hb:b < 64):pn p b=true:=by
 unfold pn
 simp
 omega
theorem t83 {b:Nat} (hb:b < 64) (c:Int):Ap p b c=true:=by
 unfold Ap
 refine ao (t96 hp ht hb) fun _=>aq (fun _ => ?_) fun _=>rfl
 simp
 omega
theorem t235 {a b:Nat} (ha:a < 64) (hb:b < 64):yQ p a b=true:=by
 obtain ⟨c,hc⟩:∃ c:Fin 2,p.aa=c.val:=by
  rcases ht with h | h
  ·exact ⟨0,h⟩
  ·exact ⟨1,h⟩
 obtain ⟨r1,r2,r3,r4,r5,r6⟩:=rV c ⟨a,ha⟩
 simp only at r1 r2 r3 r4 r5 r6
 rw [← hc] at r1 r2 r3 r4 r5 r6
 have wup:wr .i64 ((a:Int)+fX p.aa)=a+fX p.aa:=aI (by omega) (by omega)
 have k1:=t170 hp ht ha hb
 have k2:=t83 hp ht hb (wr IntKind.u8 (1 - p.aa))
 have k3:=t96 hp ht hb
 have k4:fL p.aa a≠7→pn p ((a:Int)+fX p.aa)=true:=fun h=>by
  obtain ⟨c1,c2⟩:=r2 h
  obtain ⟨s,hs⟩:=Int.eq_ofNat_of_zero_le c1
  rw [← r3,hs]
  exact t96 hp ht (by omega)
 unfold yQ
 rw [wup,← r1]
 refine ao k1 fun _=>aq (fun _=>ao k2 fun _=>rfl) fun _=>aq (fun _=>ao k3 fun _=>rfl) fun _=>aq (fun h => ?_) fun _=>aq (fun h => ?_) fun _=>rfl
 ·have h1:fL p.aa a=1:=by simpa using h
  have k5:=k4 (by omega)
  exact aq (fun _=>ao k5 fun _=>aq (fun _=>ao k3 fun _=>rfl) fun _=>rfl) fun _=>rfl
 ·have h0:fL p.aa a=0:=by simpa using h
  have k5:=k4 (by omega)
  exact aq (fun _=>aq (fun _=>aq (fun _=>ao k5 fun _=>aq (fun _=>ao k3 fun _=>rfl) fun _=>rfl) fun _=>rfl) fun _=>rfl) fun _=>rfl
theorem t163 {a b:Nat} (ha:a < 64) (hb:b < 64):vB p a b=true:=by
 have ki:(decide (0≤(a:Int))&&decide ((a:Int) < Int.ofNat 64))=true:=by simp; omega
 have k1:=t170 hp ht ha hb
 have k2:=t83 hp ht ha p.aa
 have k3:=t83 hp ht hb p.aa
 have k4:=t235 hp ht ha hb
 have k5:=t96 hp ht hb
 unfold vB
 repeat' (first | with_reducible rfl | with_reducible exact ki | with_reducible exact k1 | with_reducible exact k2 | with_reducible exact k3 | with_reducible exact k4 | with_reducible exact k5 | refine ao ?_ (fun _ => ?_) | refine aq (fun _ => ?_) (fun _ => ?_))
end
def fa (p:Pos) (a b:Nat):List Mv :=
 bif !mE p a b then [] else bif bA (p.ae.getD a 0) != 1 then [⟨a,b,0,0,false⟩] else bif gW p.aa b != 7 then [⟨a,b,0,0,false⟩] else (jn p.variant).map fun k=>⟨a,b,k,0,false⟩
theorem zf (p:Pos) (a b:Nat):(fa p a b).length≤5:=by
 unfold fa
 refine au (P:=fun l:List Mv=>l.length≤5) (fun _=>by simp) fun _=>au (P:=fun l:List Mv=>l.length≤5) (fun _=>by simp) fun _=>au (P:=fun l:List Mv=>l.length≤5) (fun _=>by simp) fun _ => ?_
 rw [List.length_map]
 unfold jn
 exact au (P:=fun l:List Int=>l.length≤5) (fun _=>by simp) fun _=>au (P:=fun l:List Int=>l.length≤5) (fun _=>by simp) fun _=>by simp
theorem Y0 (l:List Int) (p1 p2 p4 p5:Int) (p6:Bool) (p7:Pos) (p8:Nat) (m0:Mv) (out:List Mv) (hl:l.length≤5) (ho:out.length≤1000000) :
  ∃ r,tZ p1 p2 l p4 p5 p6 p7 p8 (out,0,m0)=some r∧r.1=out++l.map fun k=>⟨m0.aw,m0.to,k,m0.aD,m0.bq⟩:=by
 refine ba (I:=fun x=>0≤x.2.1∧x.2.1≤(l.length:Int)∧x.1=out++(l.take x.2.1.toNat).map (fun k=>(⟨m0.aw,m0.to,k,m0.aD,m0.bq⟩:Mv))∧x.2.2.aw=m0.aw∧x.2.2.to=m0.to∧x.2.2.aD=m0.aD∧x.2.2.bq=m0.bq) (μ:=fun x=>((l.length:Int) - x.2.1).toNat) ?_ _ ⟨by simp,by simp,by simp,rfl,rfl,rfl,rfl⟩ (by simp; omega)
 rintro ⟨o,n,m⟩ ⟨h0,h1,h2,e1,e2,e3,e4⟩
 simp only at h0 h1 h2 e1 e2 e3 e4
 by_cases hc:n < l.length
 ·have hlt:n.toNat < l.length:=by omega
  have hol:o.length≤1000005:=by
   rw [h2]; simp; omega
  refine ⟨aq (fun _=>ao (by simp [h0]; exact hc) fun _ => ?_) fun _=>rfl,au (fun _ => ?_) fun h=>absurd h (by simpa using hc)⟩
  ·simp; omega
  ·rw [aI (n:=n+1) (by omega) (by omega)]
   refine ⟨⟨by show 0≤n+1; omega,by show n+1≤_; omega,?_,e1,e2,e3,e4⟩,by show ((l.length:Int) - (n+1)).toNat < ((l.length:Int) - n).toNat; omega⟩
   show o++[_]=out++(l.take (n+1).toNat).map _
   rw [show (n+1).toNat=n.toNat+1 by omega,List.take_succ_eq_append_getElem hlt,List.map_append,h2,List.append_assoc,e1,e2,e3,e4]
   simp only [List.map_cons,List.map_nil]
   rw [List.getD_eq_getElem?_getD,List.getElem?_eq_getElem hlt]
   rfl
 ·refine ⟨aq (fun h=>absurd h (by simpa using hc)) fun _=>rfl,au (fun h=>absurd h (by simpa using hc)) fun _ => ?_⟩
  show o=_
  rw [h2,List.take_of_length_le (show l.length≤n.toNat by omega)]
def AX (p:Pos) (t:Nat) (c:Int) (s:Nat):Bool:=bA (p.ae.getD s 0) != 0&&(eY (p.ae.getD s 0)==c&&np p s t)
theorem HE {p:Pos} (hp:aG p) (ht:p.aa=0∨p.aa=1) {t:Nat} (h64:t < 64) (c:Int):vW p t c=true∧∀ s,s < 64→(FN p t c).getLsbD s=AX p t c s:=by
 have hl:∃ r,nB t c p (0#64,0)=some r∧∀ s,s < 64→r.1.getLsbD s=AX p t c s:=by
  refine ba (I:=fun x => ∃ n:Nat,n≤64∧x.2=(n:Int)∧∀ s,s < 64→x.1.getLsbD s=(decide (s < n)&&AX p t c s)) (μ:=fun x=>(64 - x.2).toNat) ?_ _ ⟨0,by omega,rfl,fun s hs=>by simp⟩ (by simp)
  rintro ⟨o,m⟩ ⟨n,hn,hm,h⟩
  simp only at hm h
  subst hm
  have hsc:(scale 1 (n:Int)).toNat=n:=by unfold scale; simp
  unfold Ao CL
  dsimp only
  rw [hsc,show decide ((t:Int) ≥ 0)=true by simp,show decide ((t:Int) < 64)=true by simp; omega]
  by_cases hc64:n < 64
  ·have k174:=t170 hp ht hc64 h64
   rw [aI (n:=(n:Int)+1) (by omega) (by omega)]
   constructor
   ·refine aq (fun _ => ?_) fun _=>rfl
    repeat' (first | with_reducible rfl | with_reducible exact k174 | (simp; omega; done) | refine ao ?_ (fun _ => ?_) | refine aq (fun _ => ?_) (fun _ => ?_))
   ·have keep:AX p t c n=false→rR (fun x:BitVec 64×Int => ∃ n:Nat,n≤64∧x.2=(n:Int)∧∀ s,s < 64→x.1.getLsbD s=(decide (s < n)&&AX p t c s)) (fun r:BitVec 64×Int×Bool => ∀ s,s < 64→r.1.getLsbD s=AX p t c s) (fun x=>(64 - x.2).toNat) (64 - (n:Int)).toNat (.go (o,(n:Int)+1)):=fun hf=>by
     refine ⟨⟨n+1,by omega,rfl,fun s hs => ?_⟩,by show (64 - ((n:Int)+1)).toNat < _; omega⟩
     show o.getLsbD s=_
     rw [h s hs]
     by_cases e:s=n
     ·subst e; rw [hf]; simp
     ·rw [show decide (s < n+1)=decide (s < n) by rw [decide_eq_decide]; omega]
    have add:AX p t c n=true→rR (fun x:BitVec 64×Int => ∃ n:Nat,n≤64∧x.2=(n:Int)∧∀ s,s < 64→x.1.getLsbD s=(decide (s < n)&&AX p t c s)) (fun r:BitVec 64×Int×Bool => ∀ s,s < 64→r.1.getLsbD s=AX p t c s) (fun x=>(64 - x.2).toNat) (64 - (n:Int)).toNat (.go (o|||1#64 <<< (BitVec.ofInt 64 n).toNat,(n:Int)+1)):=fun hf=>by
     refine ⟨⟨n+1,by omega,rfl,fun s hs => ?_⟩,by show (64 - ((n:Int)+1)).toNat < _; omega⟩
     show (o|||1#64 <<< (BitVec.ofInt 64 n).toNat).getLsbD s=_
     rw [BitVec.getLsbD_or,h s hs,cN (by omega) (by omega),Int.toNat_natCast,fF hs]
     by_cases e:s=n
     ·subst e; rw [hf]; simp
     ·rw [show decide (s < n+1)=decide (s < n) by rw [decide_eq_decide]; omega]
      simp [e]
    refine au (fun _ => ?_) fun h'=>absurd h' (by simp; omega)
    simp only [cond_true]
    refine au (fun h1=>au (fun h2=>au (fun h3 => ?_) fun h3 => ?_) fun h2 => ?_) fun h1 => ?_
    ·exact add (by unfold AX; rw [h1,h2,h3]; rfl)
    ·exact keep (by unfold AX; rw [h1,h2,h3]; rfl)
    ·exact keep (by unfold AX; rw [h1,h2]; rfl)
    ·exact keep (by unfold AX; rw [h1]; rfl)
  ·have e:n=64:=by omega
   subst e
   refine ⟨aq (fun h'=>absurd h' (by simp)) fun _=>rfl,au (fun h'=>absurd h' (by simp)) fun _ => ?_⟩
   intro s hs
   show o.getLsbD s=_
   rw [h s hs]
   simp [hs]
 have h2:=aN hl
 exact ⟨ao h2.1 fun _=>rfl,h2.2⟩
def btw (a d b:Nat):List Nat:=(jc a d).takeWhile fun s => !(s==b)
theorem K6:∀ (a:Fin 64) (d:Fin 8),((jc a.val d.val).all fun b=>decide (b < 64)&&decide (a.val ∈ jc b ((d.val+4) % 8))&&(btw b ((d.val+4) % 8) a.val==(btw a.val d.val b).reverse))=true:=by decide +kernel
theorem rS {b:Nat}:∀ {l:List Nat},b ∈ l→∃ post,l=(l.takeWhile fun s => !(s==b))++b::post∧b ∉ (l.takeWhile fun s => !(s==b))
 | [],h=>by cases h
 | s::l,h=>by
  by_cases e:s=b
  ·subst e
   exact ⟨l,by simp,by simp⟩
  ·have hb:b ∈ l:=by
    simp only [List.mem_cons] at h
    rcases h with h | h
    ·exact absurd h.symm e
    ·exact h
   obtain ⟨post,e1,e2⟩:=rS hb
   have hs:(!(s==b))=true:=by simpa using e
   have ht:((s::l).takeWhile fun s => !(s==b))=s::(l.takeWhile fun s => !(s==b)):=by
    rw [List.takeWhile]
    simp only [hs]
   refine ⟨post,?_,?_⟩
   ·rw [ht,List.cons_append,← e1]
   ·rw [ht]
    simp only [List.mem_cons,not_or]
    exact ⟨fun h=>e h.symm,e2⟩
theorem rQ {b:Nat}:∀ {l1 l2 m1 m2:List Nat},l1++b::m1=l2++b::m2→b ∉ l1→b ∉ l2→l1=l2
 | [],[],_,_,_,_,_=>rfl
 | [],y::l2,_,_,h,_,h2=>by
  simp only [List.nil_append,List.cons_append,List.cons.injEq] at h
  exact absurd (by rw [h.1]; simp) h2
 | x::l1,[],_,_,h,h1,_=>by
  simp only [List.nil_append,List.cons_append,List.cons.injEq] at h
  exact absurd (by rw [← h.1]; simp) h1
 | x::l1,y::l2,m1,m2,h,h1,h2=>by
  simp only [List.cons_append,List.cons.injEq] at h
  rw [h.1,rQ h.2 (fun hm=>h1 (by simp [hm])) (fun hm=>h2 (by simp [hm]))]
theorem yG {occ:BitVec 64} {a d b:Nat} (hb:b ∈ jc a d):b ∈ seen occ (jc a d) ↔ ∀ s ∈ btw a d b,occ.getLsbD s=false:=by
 rw [rE hb]
 obtain ⟨post,e1,e2⟩:=rS hb
 constructor
 ·intro h
  exact h _ post e1 e2
 ·intro h pre post' e hp
  rw [rQ (e.symm.trans e1) hp e2]
  exact h
theorem JS (p:Pos) {occ:BitVec 64} (hocc:∀ s,s < 64→(occ.getLsbD s=false ↔ bA (p.ae.getD s 0)=0)) {a b:Nat} (ha:a < 64) (h:kI a b=true∨kG a b=true):cU p a b=cU p b a:=by
 have:∃ d,d < 8∧b ∈ jc a d:=by
  unfold kI kG at h
  simp only [Bool.or_eq_true,decide_eq_true_eq] at h
  rcases h with (((h | h) | h) | h) | (((h | h) | h) | h)
  ·exact ⟨0,by decide,h⟩
  ·exact ⟨2,by decide,h⟩
  ·exact ⟨4,by decide,h⟩
  ·exact ⟨6,by decide,h⟩
  ·exact ⟨1,by decide,h⟩
  ·exact ⟨3,by decide,h⟩
  ·exact ⟨5,by decide,h⟩
  ·exact ⟨7,by decide,h⟩
 obtain ⟨d,hd,hb⟩:=this
 have f:=List.all_eq_true.1 (K6 ⟨a,ha⟩ ⟨d,hd⟩) b hb
 simp only [Bool.and_eq_true,decide_eq_true_eq,beq_iff_eq] at f
 obtain ⟨⟨f1,f2⟩,f3⟩:=f
 rw [(mf p hocc ha hd hb).2,(mf p hocc f1 (Nat.mod_lt _ (by decide)) f2).2,decide_eq_decide,yG hb,yG f2,f3]
 simp
theorem HI:∀ (c:Fin 2) (k:Fin 7) (v:Fin 256),1≤k.val→dc c.val k.val v.val=(bA v.val==k.val&&eY v.val==c.val):=by decide +kernel
theorem is' {c k v:Int} (hc:c=0∨c=1) (k1:1≤k) (k6:k≤6) (v0:0≤v) (v1:v≤255):dc c k v=(bA v==k&&eY v==c):=by
 obtain ⟨n,rfl⟩:=Int.eq_ofNat_of_zero_le v0
 obtain ⟨m,rfl⟩:=Int.eq_ofNat_of_zero_le (show 0≤k by omega)
 rcases hc with rfl | rfl
 ·exact HI 0 ⟨m,by omega⟩ ⟨n,by omega⟩ (by show 1≤m; omega)
 ·exact HI 1 ⟨m,by omega⟩ ⟨n,by omega⟩ (by show 1≤m; omega)
theorem jN {p:Pos} (hp:aG p) {c k:Int} (hc:c=0∨c=1) (k1:1≤k) (k6:k≤6) {s:Nat} (hs:s < 64):mT p s c k=true∧qb p s c k=dc c k (p.ae.getD s 0):=by
 obtain ⟨b0,b1⟩:=ei hp s
 have hsc:(scale 1 (s:Int)).toNat=s:=by unfold scale; simp
 rw [is' hc k1 k6 b0 b1]
 unfold mT qb
 rw [hsc]
 constructor
 ·refine ao (by simp; omega) fun _=>aq (fun _ => ?_) fun _=>rfl
  simp
  omega
 ·cases bA (p.ae.getD s 0)==k <;> rfl
theorem sV {p:Pos} (hp:aG p) {c k:Int} (hc:c=0∨c=1) (k1:1≤k) (k6:k≤6):BV p c k=true∧fI p c k=bb p c k:=by
 have hl:∃ r,lK c k p 0=some r∧(match r with
   | .inl i => ∃ n:Nat,n < 64∧i=n∧dc c k (p.ae.getD n 0)=true∧∀ j,j < n→dc c k (p.ae.getD j 0)=false
   | .inr _ => ∀ j:Nat,j < 64→dc c k (p.ae.getD j 0)=false):=by
  refine ba (I:=fun x => ∃ n:Nat,n≤64∧x=(n:Int)∧∀ j,j < n→dc c k (p.ae.getD j 0)=false) (μ:=fun x=>(64 - x).toNat) ?_ _ ⟨0,by omega,rfl,fun j hj=>by omega⟩ (by simp)
  rintro _ ⟨n,hn,rfl,h⟩
  unfold Dt HA
  rw [show (Pos.mk p.variant p.ae p.ab p.af p.aa p.ai p.ah p.ag p.half p.full)=p from rfl]
  by_cases hc64:n < 64
  ·obtain ⟨e1,e2⟩:=jN hp hc k1 k6 hc64
   rw [e1,e2,aI (n:=(n:Int)+1) (by omega) (by omega)]
   refine ⟨aq (fun _=>rfl) fun _=>rfl,au (fun _=>au (fun ht => ?_) fun ht => ?_) fun h'=>absurd h' (by simp; omega)⟩
   ·exact ⟨n,hc64,rfl,ht,h⟩
   ·refine ⟨⟨n+1,by omega,rfl,fun j hj => ?_⟩,by show (64 - ((n:Int)+1)).toNat < (64 - (n:Int)).toNat; omega⟩
    by_cases e:j=n
    ·rw [e]; exact ht
    ·exact h j (by omega)
  ·have e:n=64:=by omega
   subst e
   exact ⟨rfl,h⟩
 have h2:=aN hl
 constructor
 ·exact ao h2.1 fun _=>aq (fun _=>rfl) fun _=>rfl
 ·unfold fI
  rw [show (Pos.mk p.variant p.ae p.ab p.af p.aa p.ai p.ah p.ag p.half p.full)=p from rfl]
  have h3:=h2.2
  generalize (lK c k p 0).getD default=r at h3
  rcases iy p c k with ⟨a1,a2⟩ | ⟨j,a0,a1,a2,a3⟩
  ·cases r with
   | inl i =>
    obtain ⟨n,h64,_,ht,_⟩:=h3
    rw [a2 n h64] at ht
    cases ht
   | inr x=>rw [a1]; rfl
  ·cases r with
   | inl i =>
    obtain ⟨n,h64,rfl,ht,hm⟩:=h3
    rw [a1]
    show (n:Int)=j
    rcases Nat.lt_trichotomy n j with h | h | h
    ·rw [a3 n h] at ht; cases ht
    ·rw [h]
    ·rw [hm j h] at a2; cases a2
   | inr x =>
    rw [h3 j a0] at a2
    cases a2
theorem wZ:∀ a b:Fin 64,(pO a.val).getLsbD b.val=(pO b.val).getLsbD a.val∧(cV a.val).getLsbD b.val=(cV b.val).getLsbD a.val∧kI a.val b.val=kI b.val a.val∧kG a.val b.val=kG b.val a.val:=by decide +kernel
theorem tv:∀ (c:Fin 2) (s t:Fin 64),(cW (1 - c.val) t.val).getLsbD s.val=cJ 1 c.val s.val t.val false:=by decide +kernel
theorem Fh:∀ t:Fin 64,KM t.val=true:=by decide +kernel
theorem yY {p:Pos} (hp:aG p) {s:Nat} (hs:s < 64):(bm p).getLsbD s=false ↔ bA (p.ae.getD s 0)=0:=by
 obtain ⟨b0,b1⟩:=ei hp s
 rw [lU _ hs]
 have:eR (p.ae.getD s 0)=!(bA (p.ae.getD s 0)==0):=by
  obtain ⟨n,hn⟩:=Int.eq_ofNat_of_zero_le b0
  rw [hn]
  have h:∀ v:Fin 256,eR v.val=!(bA v.val==0):=by decide +kernel
  exact h ⟨n,by omega⟩
 rw [this]
 simp
theorem GA {p:Pos} (hp:aG p) {t:Nat} (h64:t < 64) {c:Int} (hc:c=0∨c=1) {s:Nat} (hs:s < 64):(nY p t c).getLsbD s=AX p t c s:=by
 have hocc:=fun s hs=>yY hp (s:=s) hs
 obtain ⟨b0,b1⟩:=ei hp s
 obtain ⟨y2,y6,ystr,yacr⟩:=wZ ⟨s,hs⟩ ⟨t,h64⟩
 obtain ⟨f2,f6,f4,f4',f3,f3',f5,f5'⟩:=nI ⟨s,hs⟩ ⟨t,h64⟩
 simp only at f2 f6 f4 f4' f3 f3' f5 f5' y2 y6 ystr yacr
 have hr:=tM hocc h64 hs
 have hbi:=nn hocc h64 hs
 have hqu:=vj hocc h64 hs
 have cs:kI s t=true∨kG s t=true→cU p s t=cU p t s:=fun h=>JS p hocc hs h
 have tk:=fun (k:Int) (k1:1≤k) (k6:k≤6)=>(cn p c k hs).trans (is' hc k1 k6 b0 b1)
 have hpawn:(EH (wr .u8 (1 - c)) t (bm p)).getLsbD s=cJ 1 c s t false:=by
  unfold EH
  rw [oZ (by omega) (by omega)]
  rcases hc with rfl | rfl
  ·exact tv 0 ⟨s,hs⟩ ⟨t,h64⟩
  ·exact tv 1 ⟨s,hs⟩ ⟨t,h64⟩
 have e:nY p t c=0|||EH (wr .u8 (1 - c)) t (bm p)&&&aR p c 1|||pO t&&&aR p c 2|||qF t (bm p)&&&aR p c 3|||qJ t (bm p)&&&aR p c 4|||tR t (bm p)&&&aR p c 5|||cV t&&&aR p c 6:=by
  unfold nY
  rw [Fh ⟨t,h64⟩,show decide (c > 1)=false by simp; omega]
  rfl
 rw [e]
 simp only [BitVec.getLsbD_or,BitVec.getLsbD_and]
 rw [tk 1 (by omega) (by omega),tk 2 (by omega) (by omega),tk 3 (by omega) (by omega),tk 4 (by omega) (by omega),tk 5 (by omega) (by omega),tk 6 (by omega) (by omega),hr,hbi,hqu,hpawn,← y2,← y6,← ystr,← yacr]
 unfold AX
 rw [qT,show (scale 1 (s:Int)).toNat=s by unfold scale; simp]
 have km:bA (p.ae.getD s 0)=0∨bA (p.ae.getD s 0)=1∨bA (p.ae.getD s 0)=2∨bA (p.ae.getD s 0)=3∨bA (p.ae.getD s 0)=4∨bA (p.ae.getD s 0)=5∨bA (p.ae.getD s 0)=6:=by
  have:=(qD b0 b1).2.2.2.2
  omega
 generalize bA (p.ae.getD s 0)=k at *
 generalize eY (p.ae.getD s 0)=col at *
 cases hcol:col==c with
 | false=>simp
 | true =>
  have hcol:col=c:=by simpa using hcol
  subst hcol
  rcases km with rfl | rfl | rfl | rfl | rfl | rfl | rfl
  ·simp
  ·have:cJ 1 col s t (cU p s t)=cJ 1 col s t false:=rfl
   rw [this]
   simp
  ·rw [jB (k:=2) rfl,show cJ 2 0 s t (cU p s t)=(pO s).getLsbD t from f2 ▸ rfl]
   simp
  ·rw [jB (k:=3) rfl]
   have:cJ 3 0 s t (cU p s t)=(kG s t&&cU p t s):=by
    cases ha:kG s t with
    | true =>
     rw [cs (.inr ha)]
     cases cU p t s
     ·rw [f3']; rfl
     ·rw [f3,ha]; rfl
    | false =>
     cases cU p s t
     ·rw [f3']; rfl
     ·rw [f3,ha]; rfl
   rw [this]
   simp
  ·rw [jB (k:=4) rfl]
   have:cJ 4 0 s t (cU p s t)=(kI s t&&cU p t s):=by
    cases ha:kI s t with
    | true =>
     rw [cs (.inl ha)]
     cases cU p t s
     ·rw [f4']; rfl
     ·rw [f4,ha]; rfl
    | false =>
     cases cU p s t
     ·rw [f4']; rfl
     ·rw [f4,ha]; rfl
   rw [this]
   simp
  ·rw [jB (k:=5) rfl]
   have:cJ 5 0 s t (cU p s t)=((kI s t || kG s t)&&cU p t s):=by
    cases ha:(kI s t || kG s t) with
    | true =>
     rw [cs (by simpa using ha)]
     cases cU p t s
     ·rw [f5']; rfl
     ·rw [f5,ha]; rfl
    | false =>
     cases cU p s t
     ·rw [f5']; rfl
     ·rw [f5,ha]; rfl
   rw [this]
   simp
  ·rw [jB (k:=6) rfl,show cJ 6 0 s t (cU p s t)=(cV s).getLsbD t from f6 ▸ rfl]
   simp
theorem DK {p:Pos} (hp:aG p) (ht:p.aa=0∨p.aa=1) {t:Nat} (h64:t < 64) {c:Int} (hc:c=0∨c=1):vW p t c=true∧FN p t c=nY p t c:=by
 obtain ⟨h1,h2⟩:=HE hp ht h64 c
 refine ⟨h1,BitVec.eq_of_getLsbD_eq fun s hs => ?_⟩
 rw [h2 s hs,GA hp h64 hc hs]
theorem aam {p:Pos} (hp:aG p) {b:Int} (hb:b=0∨b=1) {k:Nat} (hk:k < 64):∃ r,mC b k p 0=some r∧cq r=(p.variant==3&&(cV k&&&aR p (wr .u8 (1 - b)) 6 != 0#64)):=by
 have w1:wr .u8 (1 - b)=1 - b:=oZ (by omega) (by omega)
 rw [w1]
 have kings:∀ n:Nat,n < 64→(cV k&&&aR p (1 - b) 6).getLsbD n=(iu n k&&dc (1 - b) 6 (p.ae.getD n 0)):=fun n hn=>by
  obtain ⟨_,f6,_⟩:=nI ⟨n,hn⟩ ⟨k,hk⟩
  obtain ⟨_,y6,_⟩:=wZ ⟨n,hn⟩ ⟨k,hk⟩
  simp only at f6 y6
  rw [BitVec.getLsbD_and,cn _ _ _ hn,← y6,← f6]
  have:cJ 6 0 n k false=iu n k:=by
   have h:∀ a b:Fin 64,cJ 6 0 a.val b.val false=iu a.val b.val:=by decide +kernel
   exact h ⟨n,hn⟩ ⟨k,hk⟩
  rw [this]
 cases hv:p.variant==3 with
 | false =>
  have e:cP (fun x=>bif ly b k p x then nM b k p x else .bad) 1 0=some (.inr (0,false)):=by
   rw [cP]
   have:(bif ly b k p 0 then nM b k p 0 else .bad)=.out (.inr (0,false)):=by
    unfold ly nM
    rw [hv]
    rfl
   rw [this]
  exact ⟨_,jw _ many _ _ (by unfold many; omega) e,rfl⟩
 | true =>
  rw [Bool.true_and]
  refine ba (I:=fun x => ∃ n:Nat,n≤64∧x=(n:Int)∧∀ j,j < n→(cV k&&&aR p (1 - b) 6).getLsbD j=false) (μ:=fun x=>(64 - x).toNat) ?_ _ ⟨0,by omega,rfl,fun j hj=>by omega⟩ (by simp)
  rintro _ ⟨n,hn,rfl,h⟩
  unfold ly nM
  rw [show (Pos.mk p.variant p.ae p.ab p.af p.aa p.ai p.ah p.ag p.half p.full)=p from rfl,hv,w1]
  by_cases hc64:n < 64
  ·obtain ⟨e1,e2⟩:=jN hp (c:=1 - b) (k:=6) (by omega) (by omega) (by omega) hc64
   have hbit:=kings n hc64
   rw [e1,e2,aI (n:=(n:Int)+1) (by omega) (by omega)]
   have keep:(cV k&&&aR p (1 - b) 6).getLsbD n=false→rR (fun x:Int => ∃ n:Nat,n≤64∧x=(n:Int)∧∀ j,j < n→(cV k&&&aR p (1 - b) 6).getLsbD j=false) (fun r:Unit ⊕ (Int×Bool)=>cq r=(cV k&&&aR p (1 - b) 6 != 0#64)) (fun x=>(64 - x).toNat) (64 - (n:Int)).toNat (.go ((n:Int)+1)):=fun hf=>by
    refine ⟨⟨n+1,by omega,rfl,fun j hj => ?_⟩,by show (64 - ((n:Int)+1)).toNat < (64 - (n:Int)).toNat; omega⟩
    by_cases e:j=n
    ·rw [e]; exact hf
    ·exact h j (by omega)
   constructor
   ·repeat' (first | with_reducible rfl | refine ao ?_ (fun _ => ?_) | refine aq (fun _ => ?_) (fun _ => ?_))
   ·refine au (fun _ => ?_) fun h'=>absurd h' (by simp; omega)
    rw [cond_true]
    refine au (fun h1=>au (fun h2 => ?_) fun h2 => ?_) fun h1 => ?_
    ·show true=_
     rw [h2,h1] at hbit
     have:cV k&&&aR p (1 - b) 6≠0#64:=fun e=>by rw [e] at hbit; simp at hbit
     simpa using this
    ·exact keep (by rw [hbit,h2]; rfl)
    ·exact keep (by rw [hbit,h1,Bool.and_false])
  ·have e:n=64:=by omega
   subst e
   refine ⟨aq (fun h'=>absurd h' (by simp)) fun _=>rfl,au (fun h'=>absurd h' (by simp)) fun _ => ?_⟩
   show false=_
   have:cV k&&&aR p (1 - b) 6=0#64:=BitVec.eq_of_getLsbD_eq fun j hj=>by rw [h j hj]; simp
   rw [this]
   rfl
theorem u6:∀ (v:Fin 9) (b:Fin 2),Gn v.val b.val=yg v.val b.val:=by decide +kernel
theorem rH {v b:Int} (v0:0≤v) (hb:b=0∨b=1):Gn v b=yg v b:=by
 obtain ⟨n,rfl⟩:=Int.eq_ofNat_of_zero_le v0
 by_cases h9:n < 9
 ·rcases hb with rfl | rfl
  ·exact u6 ⟨n,h9⟩ 0
  ·exact u6 ⟨n,h9⟩ 1
 ·unfold Gn yg
  rw [show decide ((n:Int) < 9)=false by simp; omega,show decide ((n:Int) ≥ 9)=true by simp; omega]
  rcases hb with rfl | rfl <;> rfl
theorem pB {p:Pos} (hp:aG p) (ht:p.aa=0∨p.aa=1) {b:Int} (hb:b=0∨b=1):iK p b=true∧mM p b=yf p b:=by
 obtain ⟨f1,f2⟩:=sV hp (c:=b) (k:=6) hb (by omega) (by omega)
 have w1:wr .u8 (1 - b)=1 - b:=oZ (by omega) (by omega)
 have hroy:=rH (b:=b) hp.v0 hb
 have pe:(Pos.mk p.variant p.ae p.ab p.af p.aa p.ai p.ah p.ag p.half p.full)=p:=rfl
 unfold iK mM D7 A4 yf By AR
 rw [pe,f1,f2,hroy,show decide (b > 1)=false by simp; omega]
 rcases iy p b 6 with ⟨a1,_⟩ | ⟨k,hk,a1,_⟩
 ·rw [a1]
  cases yg p.variant b
  ·exact ⟨rfl,rfl⟩
  ·exact ⟨rfl,rfl⟩
 ·rw [a1]
  obtain ⟨l1,l2⟩:=aN (aam hp hb hk)
  obtain ⟨o1,o2⟩:=DK hp ht hk (c:=1 - b) (by omega)
  rw [l1,l2,w1,show decide ((k:Int) < 0)=false by simp]
  cases yg p.variant b
  ·exact ⟨rfl,rfl⟩
  ·cases p.variant==3
   ·simp only [Bool.false_and,cond_false,Bool.not_true,cond_true,Bool.true_and,Bool.and_true]
    rw [show decide ((k:Int) ≥ 0)=true by simp,o1,o2]
    exact ⟨rfl,rfl⟩
   ·cases (cV k&&&aR p (1 - b) 6 != 0#64)
    ·simp only [Bool.true_and,cond_false,Bool.not_true,cond_true,Bool.and_true]
     rw [show decide ((k:Int) ≥ 0)=true by simp,o1,o2]
     exact ⟨rfl,rfl⟩
    ·exact ⟨rfl,rfl⟩
end Kz
end
